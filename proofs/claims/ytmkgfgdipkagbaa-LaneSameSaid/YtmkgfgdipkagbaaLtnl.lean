import Derived.Test.YtmkgfgdipkagbaaWf
import Derived.Test.YtmkgfgdipkagbaaTyl
import Derived.Test.YtmkgfgdipkagbaaLband
import Derived.Test.YtmkgfgdipkagbaaLinfo
import Derived.Test.YtmkgfgdipkagbaaLinfo2
import Derived.Test.YtmkgfgdipkagbaaLbits
import Derived.Test.YtmkgfgdipkagbaaLtns
import Derived.Test.YtmkgfgdipkagbaaLtnp
namespace Go.Proofs.Ytmkgfgdipkagbaa
set_option linter.unusedVariables false
set_option linter.unusedSimpArgs false
set_option maxRecDepth 10000
open Go Go.Pv


open Go.RowKit
structure Sc where
 book : Int
 len : Int
instance : Inhabited Sc := ⟨⟨0, 0⟩⟩
def Sc.row (x : Sc) : List PV := [.int .i64 x.book, .int .i64 x.len]
theorem s_at {l : List (List Sc)} {k : Nat} (h : k < l.length) : (Option.map (fun w => [PV.ro (.rows 2 (w.map Sc.row))]) l[k]?).getD [] = [.ro (.rows 2 ((l[k]?.getD []).map Sc.row))] := by
 rw [List.getElem?_eq_getElem h]; rfl
theorem i_at {l : List (List Int)} {k : Nat} (h : k < l.length) : (Option.map (fun w => [PV.ro (.ints .i64 w)]) l[k]?).getD [] = [.ro (.ints .i64 (l[k]?.getD []))] := by
 rw [List.getElem?_eq_getElem h]; rfl
def grF (w : List Fl) : Bool := decide (20 < w.length) || w.any fun f => decide (100 < f.co.length)
def grC (g : List Int) (se : List (List Sc)) (st : List (List Int)) (tn : List (List Fl)) (ln : List Int) : Bool :=
 (decide (40 < g.length) || (decide (40 < se.length) || (decide (40 < st.length) || (decide (40 < tn.length) || decide (2000 < ln.length))))) || (se.any (fun x => decide (100 < x.length)) || (st.any (fun x => decide (200 < x.length)) || tn.any grF))
theorem any_no {α : Type} [Inhabited α] {p : α → Bool} {xs : List α} {k : Nat} (hk : xs.length ≤ k) (h : ∀ j < k, p (xs[j]?.getD default) = false) : xs.any p = false := by
 rw [List.any_eq_false]
 intro x hx
 obtain ⟨j, hj, rfl⟩ := List.getElem_of_mem hx
 have := h j (by omega)
 rw [List.getElem?_eq_getElem hj, Option.getD_some] at this
 rw [this]
 simp
theorem any_at {α : Type} [Inhabited α] {p : α → Bool} {xs : List α} {k : Nat} (hk : k < xs.length) (h : p (xs[k]?.getD default) = true) : xs.any p = true := List.any_eq_true.2 ⟨_, mem_at hk, h⟩
theorem grC_no {g : List Int} {se : List (List Sc)} {st : List (List Int)} {tn : List (List Fl)} {ln : List Int} (h : grC g se st tn ln = false) : g.length ≤ 40 ∧ se.length ≤ 40 ∧ st.length ≤ 40 ∧ tn.length ≤ 40 ∧ ln.length ≤ 2000 ∧ (∀ x ∈ se, x.length ≤ 100) ∧ (∀ x ∈ st, x.length ≤ 200) ∧ ∀ w ∈ tn, w.length ≤ 20 ∧ ∀ f ∈ w, f.co.length ≤ 100 := by
 unfold grC at h
 simp only [Bool.or_eq_false_iff, decide_eq_false_iff_not, List.any_eq_false, decide_eq_true_eq, grF, Bool.or_eq_true, List.any_eq_true, not_or, not_exists, not_and] at h
 obtain ⟨⟨h1, h2, h3, h4, h5⟩, h6, h7, h8⟩ := h
 refine ⟨by omega, by omega, by omega, by omega, by omega, fun x hx => ?_, fun x hx => ?_, fun w hw => ?_⟩
 ·have := h6 x hx; omega
 ·have := h7 x hx; omega
 ·obtain ⟨a, b⟩ := h8 w hw
  exact ⟨by omega, fun f hf => by have := b f hf; omega⟩
theorem grC_up {g : List Int} {se : List (List Sc)} {st : List (List Int)} {tn : List (List Fl)} {ln : List Int} (h : se.any (fun x => decide (100 < x.length)) = true ∨ st.any (fun x => decide (200 < x.length)) = true ∨ tn.any grF = true) : grC g se st tn ln = true := by
 unfold grC
 rcases h with h | h | h <;> rw [h] <;> simp
theorem grF_no {w : List Fl} {d : Nat} (h : w.length ≤ 20) (hd : w.length ≤ d) (h2 : ∀ j < d, (w[j]?.getD default).co.length ≤ 100) : grF w = false := by
 unfold grF
 rw [decide_eq_false (by omega), Bool.false_or]
 exact any_no hd fun j hj => decide_eq_false (by have := h2 j hj; omega)
theorem grF_at {w : List Fl} {d : Nat} (hd : d < w.length) (h : 100 < (w[d]?.getD default).co.length) : grF w = true := by
 unfold grF
 rw [any_at hd (decide_eq_true h), Bool.or_true]
theorem grC_end {g : List Int} {se : List (List Sc)} {st : List (List Int)} {tn : List (List Fl)} {ln : List Int} {a b c : Nat} (h : g.length ≤ 40 ∧ se.length ≤ 40 ∧ st.length ≤ 40 ∧ tn.length ≤ 40 ∧ ln.length ≤ 2000) (ha : se.length ≤ a) (hb : st.length ≤ b) (hc : tn.length ≤ c) (h1 : ∀ j < a, (se[j]?.getD []).length ≤ 100) (h2 : ∀ j < b, (st[j]?.getD []).length ≤ 200) (h3 : ∀ j < c, grF (tn[j]?.getD []) = false) : grC g se st tn ln = false := by
 unfold grC
 rw [any_no ha fun j hj => decide_eq_false (by have := h1 j hj; exact (by omega : ¬ 100 < (se[j]?.getD []).length)), any_no hb fun j hj => decide_eq_false (by have := h2 j hj; exact (by omega : ¬ 200 < (st[j]?.getD []).length)), any_no hc h3, decide_eq_false (by omega), decide_eq_false (by omega), decide_eq_false (by omega), decide_eq_false (by omega), decide_eq_false (by omega)]
 rfl
theorem grC_one {g : List Int} {se : List (List Sc)} {st : List (List Int)} {tn : List (List Fl)} {ln : List Int} (h : 40 < g.length ∨ 40 < se.length ∨ 40 < st.length ∨ 40 < tn.length ∨ 2000 < ln.length) : grC g se st tn ln = true := by
 unfold grC
 rw [Bool.or_eq_true]
 left
 simp only [Bool.or_eq_true, decide_eq_true_eq]
 exact h
def cntL (l : List (List Fl)) (k : Nat) : Nat := ((l.take k).map List.length).sum
def loF (f : Fl) : Fl := { f with co := List.replicate f.order.toNat 0 }
def hiF (f : Fl) (a : Int) : Fl := { f with co := (List.replicate f.order.toNat 0).set (a.tmod f.order).toNat (if f.fine then 7 else 3) }
attribute [local simp] runs gd step1 need evu un opnds opv ev cst cst1 cstL getT getH putT onL nxt argT cellsOf PV.one thn inBlk jmp fldP ldP ldC live Cells.len Cells.get Cells.w sug ldv bin eqF eq1 ops2 sh2 binv Tk.agg stC apC rdS apS cpC cpS mvL zp argsP idx fillP toInts chunks mkC ixS ixA oidx slP sl0 slA optL List.append mxF bltn frzA frz frzL frz1 pur1 Cells.pur PV.scal scal1 runD rdO PV.ids id1 zids ety Eff.on cnd minb and1b ifmax ifmin mxv sugI strv w0 w1 w2 wm1
set_option maxHeartbeats 2000000 in
theorem reedpiperef18_Great_ok (ga s sh m : Int) (g : List Int) (se : List (List Sc)) (st : List (List Int)) (tn : List (List Fl)) (ln : List Int) : PCall Try.prog 14 [.agg [.int .i64 ga, .int .u8 s, .int .u8 sh, .int .i64 m, .ro (.ints .i64 g), .ro (.rows 1 (se.map fun w => [.ro (.rows 2 (w.map Sc.row))])), .ro (.rows 1 (st.map fun w => [.ro (.ints .i64 w)])), .ro (.rows 1 (tn.map fun w => [.ro (.rows 5 (w.map Fl.row))])), .ro (.ints .i64 ln)]] (.bool (grC g se st tn ln)) := by
 refine pcall_body ty_ok Try.func14 rfl (by rfl) (by simp) ?_
 rw [Try.ntmps14]
 refine swp_seq fun K1 hK1 => ?_
 refine swp_region ty_ok ?_
 try simp (maxSteps := 1000000)
 repeat' (first | apply And.intro | intro _)
 any_goals (first | (refine hK1 _ ?_; clear hK1) | omega | (simp_all <;> omega))
 refine swp_seq fun K2 hK2 => ?_
 refine swp_seq fun K3 hK3 => ?_
 refine swp_region ty_ok ?_
 refine runs_cut 9 fun R4 hR4 => ?_
 try simp (maxSteps := 1000000) [List.take_succ_cons, List.take_zero, List.drop_succ_cons, List.drop_zero]
 repeat' (first | apply And.intro | intro _)
 any_goals (first | (refine hR4 _ ?_; clear hR4) | omega | (simp_all <;> omega))
 refine runs_cut 10 fun R5 hR5 => ?_
 try simp (maxSteps := 1000000) [List.take_succ_cons, List.take_zero, List.drop_succ_cons, List.drop_zero]
 repeat' (first | apply And.intro | intro _)
 any_goals (first | (refine hR5 _ ?_; clear hR5) | omega | (simp_all <;> omega))
 try simp (maxSteps := 1000000) [List.take_succ_cons, List.take_zero, List.drop_succ_cons, List.drop_zero]
 repeat' (first | apply And.intro | intro _)
 any_goals (first | (refine hK3 _ ?_; clear hK3) | omega | (simp_all <;> omega))
 refine swp_if fun C6 hC6 => ?_
 try simp (maxSteps := 1000000)
 refine hC6 _ (fun hc6 => ?_) (fun hc6 => ?_)
 ·clear hC6
  try simp at hc6
  refine swp_seq fun K7 hK7 => ?_
  refine swp_region ty_ok ?_
  try simp (maxSteps := 1000000)
  repeat' (first | apply And.intro | intro _)
  any_goals (first | (refine hK7 _ ?_; clear hK7) | omega | (simp_all <;> omega))
  refine swp_ret ?_
  simp [fnPost, Try.results14, resP, tupOf]
  exact grC_one (by omega)
 ·clear hC6
  try simp at hc6
  refine swp_skip ?_
  try simp only [thn, inBlk]
  refine hK2 _ ?_; clear hK2
  refine swp_seq fun K8 hK8 => ?_
  refine swp_seq fun K9 hK9 => ?_
  refine swp_region ty_ok ?_
  try simp (maxSteps := 1000000)
  repeat' (first | apply And.intro | intro _)
  any_goals (first | (refine hK9 _ ?_; clear hK9) | omega | (simp_all <;> omega))
  refine swp_block ?_
  refine swp_loop 1 (fun m_ s_ => ∃ (a : Nat), (a ≤ se.length) ∧ (∀ j < a, (se[j]?.getD []).length ≤ 100) ∧ s_ = ⟨[(1, .ptr 0 0 0 1), (3, .int .i64 (a : Nat))], [(0, some ⟨.rows 9 [[.int .i64 ga, .int .u8 s, .int .u8 sh, .int .i64 m, .ro (.ints .i64 g), .ro (.rows 1 (se.map fun w => [.ro (.rows 2 (w.map Sc.row))])), .ro (.rows 1 (st.map fun w => [.ro (.ints .i64 w)])), .ro (.rows 1 (tn.map fun w => [.ro (.rows 5 (w.map Fl.row))])), .ro (.ints .i64 ln)]], true, 29⟩)], 1⟩ ∧ m_ = se.length - a) _ ⟨[(1, .ptr 0 0 0 1), (3, .int .i64 (0 : Nat))], [(0, some ⟨.rows 9 [[.int .i64 ga, .int .u8 s, .int .u8 sh, .int .i64 m, .ro (.ints .i64 g), .ro (.rows 1 (se.map fun w => [.ro (.rows 2 (w.map Sc.row))])), .ro (.rows 1 (st.map fun w => [.ro (.ints .i64 w)])), .ro (.rows 1 (tn.map fun w => [.ro (.rows 5 (w.map Fl.row))])), .ro (.ints .i64 ln)]], true, 29⟩)], 1⟩ ⟨by simp [getT, PV.lo, lo1], by simp [getH, Blk.lo, Cells.lo, lo1], rfl, by omega⟩ ⟨(0), by omega, by simp, rfl, rfl⟩ ?_
  rintro m_ s_ ⟨a, hL10_0, hL10_1, rfl, rfl⟩ KL10 hL10
  have haw : IntKind.i64.wrap ((a : Int) + 1) = (((a + 1 : Nat)) : Int) := wnext (by omega)
  refine swp_seq fun K11 hK11 => ?_
  refine swp_seq fun K12 hK12 => ?_
  refine swp_region ty_ok ?_
  try simp (maxSteps := 1000000)
  repeat' (first | apply And.intro | intro _)
  any_goals (first | (refine hK12 _ ?_; clear hK12) | omega | (simp_all <;> omega))
  refine swp_if fun C13 hC13 => ?_
  try simp (maxSteps := 1000000)
  refine hC13 _ (fun hc13 => ?_) (fun hc13 => ?_)
  ·clear hC13
   try simp at hc13
   refine swp_skip ?_
   try simp only [thn, inBlk]
   refine hK11 _ ?_; clear hK11
   refine swp_seq fun K14 hK14 => ?_
   refine swp_block ?_
   refine swp_seq fun K15 hK15 => ?_
   have hra := s_at (l := se) (k := a) (by omega)
   refine swp_region ty_ok ?_
   try simp (maxSteps := 1000000) [hra]
   repeat' (first | apply And.intro | intro _)
   any_goals (first | (refine hK15 _ ?_; clear hK15) | omega | (simp_all <;> omega))
   refine swp_if fun C16 hC16 => ?_
   try simp (maxSteps := 1000000) [hra]
   refine hC16 _ (fun hc16 => ?_) (fun hc16 => ?_)
   ·clear hC16
    try simp at hc16
    refine swp_seq fun K17 hK17 => ?_
    refine swp_region ty_ok ?_
    try simp (maxSteps := 1000000)
    repeat' (first | apply And.intro | intro _)
    any_goals (first | (refine hK17 _ ?_; clear hK17) | omega | (simp_all <;> omega))
    refine swp_ret ?_
    simp [fnPost, Try.results14, resP, tupOf]
    exact grC_up (.inl (any_at (k := a) (by omega) (decide_eq_true (by omega : 100 < (se[a]?.getD []).length))))
   ·clear hC16
    try simp at hc16
    refine swp_skip ?_
    try simp only [thn, inBlk]
    refine hK14 _ ?_; clear hK14
    refine swp_region ty_ok ?_
    try simp (maxSteps := 1000000)
    repeat' apply And.intro
    any_goals (try omega)
    refine hL10 _ ⟨[(1, .ptr 0 0 0 1), (3, .int .i64 ((a + 1) : Nat))], [(0, some ⟨.rows 9 [[.int .i64 ga, .int .u8 s, .int .u8 sh, .int .i64 m, .ro (.ints .i64 g), .ro (.rows 1 (se.map fun w => [.ro (.rows 2 (w.map Sc.row))])), .ro (.rows 1 (st.map fun w => [.ro (.ints .i64 w)])), .ro (.rows 1 (tn.map fun w => [.ro (.rows 5 (w.map Fl.row))])), .ro (.ints .i64 ln)]], true, 29⟩)], 1⟩ _ ?_ ⟨(a + 1), by omega, by (refine lt_step (by assumption) ?_; omega), rfl, rfl⟩ ⟨by simp [getT, PV.lo, lo1, haw], by simp [getH, Blk.lo, Cells.lo, lo1], rfl, by omega⟩
    omega
  ·clear hC13
   try simp at hc13
   refine swp_exit ?_
   simp [thn, inBlk]
   refine hK8 _ ?_; clear hK8
   refine swp_seq fun K18 hK18 => ?_
   refine swp_seq fun K19 hK19 => ?_
   refine swp_region ty_ok ?_
   try simp (maxSteps := 1000000)
   repeat' (first | apply And.intro | intro _)
   any_goals (first | (refine hK19 _ ?_; clear hK19) | omega | (simp_all <;> omega))
   refine swp_block ?_
   refine swp_loop 1 (fun m_ s_ => ∃ (b : Nat), (b ≤ st.length) ∧ (∀ j < b, (st[j]?.getD []).length ≤ 200) ∧ s_ = ⟨[(1, .ptr 0 0 0 1), (4, .int .i64 (b : Nat))], [(0, some ⟨.rows 9 [[.int .i64 ga, .int .u8 s, .int .u8 sh, .int .i64 m, .ro (.ints .i64 g), .ro (.rows 1 (se.map fun w => [.ro (.rows 2 (w.map Sc.row))])), .ro (.rows 1 (st.map fun w => [.ro (.ints .i64 w)])), .ro (.rows 1 (tn.map fun w => [.ro (.rows 5 (w.map Fl.row))])), .ro (.ints .i64 ln)]], true, 29⟩)], 1⟩ ∧ m_ = st.length - b) _ ⟨[(1, .ptr 0 0 0 1), (4, .int .i64 (0 : Nat))], [(0, some ⟨.rows 9 [[.int .i64 ga, .int .u8 s, .int .u8 sh, .int .i64 m, .ro (.ints .i64 g), .ro (.rows 1 (se.map fun w => [.ro (.rows 2 (w.map Sc.row))])), .ro (.rows 1 (st.map fun w => [.ro (.ints .i64 w)])), .ro (.rows 1 (tn.map fun w => [.ro (.rows 5 (w.map Fl.row))])), .ro (.ints .i64 ln)]], true, 29⟩)], 1⟩ ⟨by simp [getT, PV.lo, lo1], by simp [getH, Blk.lo, Cells.lo, lo1], rfl, by omega⟩ ⟨(0), by omega, by simp, rfl, rfl⟩ ?_
   rintro m_ s_ ⟨b, hL20_0, hL20_1, rfl, rfl⟩ KL20 hL20
   have hbw : IntKind.i64.wrap ((b : Int) + 1) = (((b + 1 : Nat)) : Int) := wnext (by omega)
   refine swp_seq fun K21 hK21 => ?_
   refine swp_seq fun K22 hK22 => ?_
   refine swp_region ty_ok ?_
   try simp (maxSteps := 1000000)
   repeat' (first | apply And.intro | intro _)
   any_goals (first | (refine hK22 _ ?_; clear hK22) | omega | (simp_all <;> omega))
   refine swp_if fun C23 hC23 => ?_
   try simp (maxSteps := 1000000)
   refine hC23 _ (fun hc23 => ?_) (fun hc23 => ?_)
   ·clear hC23
    try simp at hc23
    refine swp_skip ?_
    try simp only [thn, inBlk]
    refine hK21 _ ?_; clear hK21
    refine swp_seq fun K24 hK24 => ?_
    refine swp_block ?_
    refine swp_seq fun K25 hK25 => ?_
    have hrb := i_at (l := st) (k := b) (by omega)
    refine swp_region ty_ok ?_
    try simp (maxSteps := 1000000) [hrb]
    repeat' (first | apply And.intro | intro _)
    any_goals (first | (refine hK25 _ ?_; clear hK25) | omega | (simp_all <;> omega))
    refine swp_if fun C26 hC26 => ?_
    try simp (maxSteps := 1000000) [hrb]
    refine hC26 _ (fun hc26 => ?_) (fun hc26 => ?_)
    ·clear hC26
     try simp at hc26
     refine swp_seq fun K27 hK27 => ?_
     refine swp_region ty_ok ?_
     try simp (maxSteps := 1000000)
     repeat' (first | apply And.intro | intro _)
     any_goals (first | (refine hK27 _ ?_; clear hK27) | omega | (simp_all <;> omega))
     refine swp_ret ?_
     simp [fnPost, Try.results14, resP, tupOf]
     exact grC_up (.inr (.inl (any_at (k := b) (by omega) (decide_eq_true (by omega : 200 < (st[b]?.getD []).length)))))
    ·clear hC26
     try simp at hc26
     refine swp_skip ?_
     try simp only [thn, inBlk]
     refine hK24 _ ?_; clear hK24
     refine swp_region ty_ok ?_
     try simp (maxSteps := 1000000)
     repeat' apply And.intro
     any_goals (try omega)
     refine hL20 _ ⟨[(1, .ptr 0 0 0 1), (4, .int .i64 ((b + 1) : Nat))], [(0, some ⟨.rows 9 [[.int .i64 ga, .int .u8 s, .int .u8 sh, .int .i64 m, .ro (.ints .i64 g), .ro (.rows 1 (se.map fun w => [.ro (.rows 2 (w.map Sc.row))])), .ro (.rows 1 (st.map fun w => [.ro (.ints .i64 w)])), .ro (.rows 1 (tn.map fun w => [.ro (.rows 5 (w.map Fl.row))])), .ro (.ints .i64 ln)]], true, 29⟩)], 1⟩ _ ?_ ⟨(b + 1), by omega, by (refine lt_step (by assumption) ?_; omega), rfl, rfl⟩ ⟨by simp [getT, PV.lo, lo1, hbw], by simp [getH, Blk.lo, Cells.lo, lo1], rfl, by omega⟩
     omega
   ·clear hC23
    try simp at hc23
    refine swp_exit ?_
    simp [thn, inBlk]
    refine hK18 _ ?_; clear hK18
    refine swp_seq fun K28 hK28 => ?_
    refine swp_seq fun K29 hK29 => ?_
    refine swp_region ty_ok ?_
    try simp (maxSteps := 1000000)
    repeat' (first | apply And.intro | intro _)
    any_goals (first | (refine hK29 _ ?_; clear hK29) | omega | (simp_all <;> omega))
    refine swp_block ?_
    refine swp_loop 1 (fun m_ s_ => ∃ (c : Nat), (c ≤ tn.length) ∧ (∀ j < c, grF (tn[j]?.getD []) = false) ∧ s_ = ⟨[(1, .ptr 0 0 0 1), (5, .int .i64 (c : Nat))], [(0, some ⟨.rows 9 [[.int .i64 ga, .int .u8 s, .int .u8 sh, .int .i64 m, .ro (.ints .i64 g), .ro (.rows 1 (se.map fun w => [.ro (.rows 2 (w.map Sc.row))])), .ro (.rows 1 (st.map fun w => [.ro (.ints .i64 w)])), .ro (.rows 1 (tn.map fun w => [.ro (.rows 5 (w.map Fl.row))])), .ro (.ints .i64 ln)]], true, 29⟩)], 1⟩ ∧ m_ = tn.length - c) _ ⟨[(1, .ptr 0 0 0 1), (5, .int .i64 (0 : Nat))], [(0, some ⟨.rows 9 [[.int .i64 ga, .int .u8 s, .int .u8 sh, .int .i64 m, .ro (.ints .i64 g), .ro (.rows 1 (se.map fun w => [.ro (.rows 2 (w.map Sc.row))])), .ro (.rows 1 (st.map fun w => [.ro (.ints .i64 w)])), .ro (.rows 1 (tn.map fun w => [.ro (.rows 5 (w.map Fl.row))])), .ro (.ints .i64 ln)]], true, 29⟩)], 1⟩ ⟨by simp [getT, PV.lo, lo1], by simp [getH, Blk.lo, Cells.lo, lo1], rfl, by omega⟩ ⟨(0), by omega, by simp, rfl, rfl⟩ ?_
    rintro m_ s_ ⟨c, hL30_0, hL30_1, rfl, rfl⟩ KL30 hL30
    have hcw : IntKind.i64.wrap ((c : Int) + 1) = (((c + 1 : Nat)) : Int) := wnext (by omega)
    refine swp_seq fun K31 hK31 => ?_
    refine swp_seq fun K32 hK32 => ?_
    refine swp_region ty_ok ?_
    try simp (maxSteps := 1000000)
    repeat' (first | apply And.intro | intro _)
    any_goals (first | (refine hK32 _ ?_; clear hK32) | omega | (simp_all <;> omega))
    refine swp_if fun C33 hC33 => ?_
    try simp (maxSteps := 1000000)
    refine hC33 _ (fun hc33 => ?_) (fun hc33 => ?_)
    ·clear hC33
     try simp at hc33
     refine swp_skip ?_
     try simp only [thn, inBlk]
     refine hK31 _ ?_; clear hK31
     refine swp_seq fun K34 hK34 => ?_
     refine swp_block ?_
     refine swp_seq fun K35 hK35 => ?_
     refine swp_seq fun K36 hK36 => ?_
     have hrc := w_at (l := tn) (k := c) (by omega)
     refine swp_region ty_ok ?_
     try simp (maxSteps := 1000000) [hrc]
     repeat' (first | apply And.intro | intro _)
     any_goals (first | (refine hK36 _ ?_; clear hK36) | omega | (simp_all <;> omega))
     refine swp_if fun C37 hC37 => ?_
     try simp (maxSteps := 1000000) [hrc]
     refine hC37 _ (fun hc37 => ?_) (fun hc37 => ?_)
     ·clear hC37
      try simp at hc37
      refine swp_seq fun K38 hK38 => ?_
      refine swp_region ty_ok ?_
      try simp (maxSteps := 1000000)
      repeat' (first | apply And.intro | intro _)
      any_goals (first | (refine hK38 _ ?_; clear hK38) | omega | (simp_all <;> omega))
      refine swp_ret ?_
      simp [fnPost, Try.results14, resP, tupOf]
      exact grC_up (.inr (.inr (any_at (k := c) (by omega) (by rw [grF, decide_eq_true (by omega), Bool.true_or] : grF (tn[c]?.getD []) = true))))
     ·clear hC37
      try simp at hc37
      refine swp_skip ?_
      try simp only [thn, inBlk]
      refine hK35 _ ?_; clear hK35
      refine swp_seq fun K39 hK39 => ?_
      refine swp_region ty_ok ?_
      try simp (maxSteps := 1000000)
      repeat' (first | apply And.intro | intro _)
      any_goals (first | (refine hK39 _ ?_; clear hK39) | omega | (simp_all <;> omega))
      refine swp_block ?_
      refine swp_loop 1 (fun m_ s_ => ∃ (d : Nat), (d ≤ (tn[c]?.getD []).length) ∧ (∀ j < d, ((tn[c]?.getD [])[j]?.getD default).co.length ≤ 100) ∧ s_ = ⟨[(1, .ptr 0 0 0 1), (6, .int .i64 (d : Nat)), (5, .int .i64 (c : Nat))], [(0, some ⟨.rows 9 [[.int .i64 ga, .int .u8 s, .int .u8 sh, .int .i64 m, .ro (.ints .i64 g), .ro (.rows 1 (se.map fun w => [.ro (.rows 2 (w.map Sc.row))])), .ro (.rows 1 (st.map fun w => [.ro (.ints .i64 w)])), .ro (.rows 1 (tn.map fun w => [.ro (.rows 5 (w.map Fl.row))])), .ro (.ints .i64 ln)]], true, 29⟩)], 1⟩ ∧ m_ = (tn[c]?.getD []).length - d) _ ⟨[(1, .ptr 0 0 0 1), (6, .int .i64 (0 : Nat)), (5, .int .i64 (c : Nat))], [(0, some ⟨.rows 9 [[.int .i64 ga, .int .u8 s, .int .u8 sh, .int .i64 m, .ro (.ints .i64 g), .ro (.rows 1 (se.map fun w => [.ro (.rows 2 (w.map Sc.row))])), .ro (.rows 1 (st.map fun w => [.ro (.ints .i64 w)])), .ro (.rows 1 (tn.map fun w => [.ro (.rows 5 (w.map Fl.row))])), .ro (.ints .i64 ln)]], true, 29⟩)], 1⟩ ⟨by simp [getT, PV.lo, lo1], by simp [getH, Blk.lo, Cells.lo, lo1], rfl, by omega⟩ ⟨(0), by omega, by simp, rfl, rfl⟩ ?_
      rintro m_ s_ ⟨d, hL40_0, hL40_1, rfl, rfl⟩ KL40 hL40
      have hdw : IntKind.i64.wrap ((d : Int) + 1) = (((d + 1 : Nat)) : Int) := wnext (by omega)
      refine swp_seq fun K41 hK41 => ?_
      refine swp_seq fun K42 hK42 => ?_
      refine swp_region ty_ok ?_
      try simp (maxSteps := 1000000) [hrc]
      repeat' (first | apply And.intro | intro _)
      any_goals (first | (refine hK42 _ ?_; clear hK42) | omega | (simp_all <;> omega))
      refine swp_if fun C43 hC43 => ?_
      try simp (maxSteps := 1000000) [hrc]
      refine hC43 _ (fun hc43 => ?_) (fun hc43 => ?_)
      ·clear hC43
       try simp at hc43
       refine swp_skip ?_
       try simp only [thn, inBlk]
       refine hK41 _ ?_; clear hK41
       refine swp_seq fun K44 hK44 => ?_
       refine swp_block ?_
       refine swp_seq fun K45 hK45 => ?_
       have hrd := row_at (ws := tn[c]?.getD []) (k := d) (by omega)
       refine swp_region ty_ok ?_
       try simp (maxSteps := 1000000) [hrc, hrd]
       repeat' (first | apply And.intro | intro _)
       any_goals (first | (refine hK45 _ ?_; clear hK45) | omega | (simp_all <;> omega))
       refine swp_if fun C46 hC46 => ?_
       try simp (maxSteps := 1000000) [hrc, hrd]
       refine hC46 _ (fun hc46 => ?_) (fun hc46 => ?_)
       ·clear hC46
        try simp at hc46
        refine swp_seq fun K47 hK47 => ?_
        refine swp_region ty_ok ?_
        try simp (maxSteps := 1000000)
        repeat' (first | apply And.intro | intro _)
        any_goals (first | (refine hK47 _ ?_; clear hK47) | omega | (simp_all <;> omega))
        refine swp_ret ?_
        simp [fnPost, Try.results14, resP, tupOf]
        exact grC_up (.inr (.inr (any_at (k := c) (by omega) (show grF (tn[c]?.getD []) = true from grF_at (d := d) (by omega) (by omega)))))
       ·clear hC46
        try simp at hc46
        refine swp_skip ?_
        try simp only [thn, inBlk]
        refine hK44 _ ?_; clear hK44
        refine swp_region ty_ok ?_
        try simp (maxSteps := 1000000)
        repeat' apply And.intro
        any_goals (try omega)
        refine hL40 _ ⟨[(1, .ptr 0 0 0 1), (6, .int .i64 ((d + 1) : Nat)), (5, .int .i64 (c : Nat))], [(0, some ⟨.rows 9 [[.int .i64 ga, .int .u8 s, .int .u8 sh, .int .i64 m, .ro (.ints .i64 g), .ro (.rows 1 (se.map fun w => [.ro (.rows 2 (w.map Sc.row))])), .ro (.rows 1 (st.map fun w => [.ro (.ints .i64 w)])), .ro (.rows 1 (tn.map fun w => [.ro (.rows 5 (w.map Fl.row))])), .ro (.ints .i64 ln)]], true, 29⟩)], 1⟩ _ ?_ ⟨(d + 1), by omega, by (refine lt_step (by assumption) ?_; omega), rfl, rfl⟩ ⟨by simp [getT, PV.lo, lo1, hdw], by simp [getH, Blk.lo, Cells.lo, lo1], rfl, by omega⟩
        omega
      ·clear hC43
       try simp at hc43
       refine swp_exit ?_
       simp [thn, inBlk]
       refine hK34 _ ?_; clear hK34
       refine swp_region ty_ok ?_
       try simp (maxSteps := 1000000)
       repeat' apply And.intro
       any_goals (try omega)
       refine hL30 _ ⟨[(1, .ptr 0 0 0 1), (5, .int .i64 ((c + 1) : Nat))], [(0, some ⟨.rows 9 [[.int .i64 ga, .int .u8 s, .int .u8 sh, .int .i64 m, .ro (.ints .i64 g), .ro (.rows 1 (se.map fun w => [.ro (.rows 2 (w.map Sc.row))])), .ro (.rows 1 (st.map fun w => [.ro (.ints .i64 w)])), .ro (.rows 1 (tn.map fun w => [.ro (.rows 5 (w.map Fl.row))])), .ro (.ints .i64 ln)]], true, 29⟩)], 1⟩ _ ?_ ⟨(c + 1), by omega, by (refine lt_step (by assumption) (grF_no (d := d) (by omega) (by omega) (by assumption))), rfl, rfl⟩ ⟨by simp [getT, PV.lo, lo1, hcw], by simp [getH, Blk.lo, Cells.lo, lo1], rfl, by omega⟩
       omega
    ·clear hC33
     try simp at hc33
     refine swp_exit ?_
     simp [thn, inBlk]
     refine hK28 _ ?_; clear hK28
     refine swp_seq fun K48 hK48 => ?_
     refine swp_region ty_ok ?_
     try simp (maxSteps := 1000000)
     repeat' (first | apply And.intro | intro _)
     any_goals (first | (refine hK48 _ ?_; clear hK48) | omega | (simp_all <;> omega))
     refine swp_ret ?_
     simp [fnPost, Try.results14, resP, tupOf]
     exact grC_end (a := a) (b := b) (c := c) (by omega) (by omega) (by omega) (by omega) (by assumption) (by assumption) (by assumption)

end Go.Proofs.Ytmkgfgdipkagbaa

