import Derived.Test.YtmkgfgdipkagbaaWb
import Derived.Test.YtmkgfgdipkagbaaTyl
import Derived.Test.YtmkgfgdipkagbaaLband
import Derived.Test.YtmkgfgdipkagbaaLinfo
import Derived.Test.YtmkgfgdipkagbaaLinfo2
import Derived.Test.YtmkgfgdipkagbaaLbits
import Derived.Test.YtmkgfgdipkagbaaLtns
import Derived.Test.YtmkgfgdipkagbaaLtnp
import Derived.Test.YtmkgfgdipkagbaaLtnl
import Derived.Test.YtmkgfgdipkagbaaLlan
namespace Go.Proofs.Ytmkgfgdipkagbaa
set_option linter.unusedVariables false
set_option linter.unusedSimpArgs false
set_option maxRecDepth 10000
open Go Go.Pv


open Go.RowKit
theorem rgt_no {s W O : Int} {f : Fl} (ht : top1 s = W + 1) (ho : sz4 s = O) (h : ((((f.len < 0 ∨ W < f.len) ∨ f.order < 0) ∨ O < f.order) ∨ ¬ (f.co.length : Int) = f.order) ∨ f.order = 0 ∧ f.down = true) : rightB s f = false := by
  cases hr : rightB s f with
  | false => rfl
  | true =>
    obtain ⟨h1, h2, h3, h4, h5⟩ := right_ok hr
    rcases h with h | ⟨h6, h7⟩
    · omega
    · rw [h7] at h4
      rcases h4 with h4 | h4
      · omega
      · cases h4
theorem rgt_yes {s W O : Int} {f : Fl} (ht : top1 s = W + 1) (ho : sz4 s = O) (h : ((((0 ≤ f.len ∧ f.len ≤ W) ∧ 0 ≤ f.order) ∧ f.order ≤ O) ∧ (f.co.length : Int) = f.order) ∧ (f.order = 0 → f.down = false)) : rightB s f = fitB f.co (widB f.fine) := by
  unfold rightB
  rw [decide_eq_true (by omega : 0 ≤ f.len), decide_eq_true (by omega : f.len < top1 s), decide_eq_true (by omega : 0 ≤ f.order), decide_eq_true (by omega : f.order ≤ sz4 s), decide_eq_true (by omega : (f.co.length : Int) = f.order)]
  have : (decide (0 < f.order) || !f.down) = true := by
    by_cases h0 : f.order = 0
    · rw [h.2 h0]; simp
    · rw [decide_eq_true (by omega)]; rfl
  rw [this]
  rfl
theorem out3 (n : Int) : (decide (n < -4) || decide (3 < n)) = outF 3 n := by
  unfold outF
  have : hF 3 = 4 := rfl
  rw [this]
  congr 1
theorem out4 (n : Int) : (decide (n < -8) || decide (7 < n)) = outF 4 n := by
  unfold outF
  have : hF 4 = 8 := rfl
  rw [this]
  congr 1
def filA (s n : Int) (tn : List (List Fl)) : Bool := decide ((tn.length : Int) = n) && !tn.any (badW s)
def grT : List Int := [0, 1, 1, 2, 2, 4, 4, 7, 7, 12, 12, 8191, 0]
def gr (book : Int) : Int := grT[book.toNat]?.getD 0
def outG (q n : Int) : Bool := decide (q < n) || decide (n < -q)
theorem gr_fin : ∀ k : Fin 12, (grT.map (PV.int .i64))[k.val]? = some (.int .i64 (gr (k.val : Int))) ∧ 0 ≤ gr (k.val : Int) ∧ gr (k.val : Int) ≤ 8191 := fun k => by
  have h : k.val < grT.length := Nat.lt_of_lt_of_le k.isLt (by decide)
  refine ⟨?_, ?_⟩
  · rw [List.getElem?_map, List.getElem?_eq_getElem h, gr, Int.toNat_natCast, List.getElem?_eq_getElem h]
    rfl
  · revert k
    decide
theorem gr_at {book : Int} (h : 0 ≤ book ∧ book ≤ 11) : ([.int .i64 0, .int .i64 1, .int .i64 1, .int .i64 2, .int .i64 2, .int .i64 4, .int .i64 4, .int .i64 7, .int .i64 7, .int .i64 12, .int .i64 12, .int .i64 8191, .int .i64 0] : List PV)[book.toNat]? = some (.int .i64 (gr book)) ∧ 0 ≤ gr book ∧ gr book ≤ 8191 := by
  have := gr_fin ⟨book.toNat, by omega⟩
  simp only [show ((book.toNat : Nat) : Int) = book by omega] at this
  exact this
def dimH (book : Int) : Int := if book < 5 then 4 else 2
def fitsB (book v : Int) : Bool := !(decide (gr book < v) || decide (v < -gr book))
theorem fits_one {book v : Int} (h : 0 ≤ gr book) (zs : List Int) (hz : ∀ z ∈ zs, z = 0) : (!(v :: zs).any (outG (gr book))) = fitsB book v := by
  have : zs.any (outG (gr book)) = false := by
    rw [List.any_eq_false]
    intro z hm
    rw [hz z hm]
    unfold outG
    simp only [Bool.or_eq_true, decide_eq_true_eq]
    omega
  rw [List.any_cons, this, Bool.or_false]
  rfl
theorem filA_bad {s n : Int} {tn : List (List Fl)} {k : Nat} (hk : k < tn.length) (h : badW s (tn[k]?.getD []) = true) : filA s n tn = false := by
  unfold filA
  rw [any_at hk h]
  simp
theorem filA_ok {s n : Int} {tn : List (List Fl)} {k : Nat} (hn : (tn.length : Int) = n) (hk : tn.length ≤ k) (h : ∀ j < k, badW s (tn[j]?.getD []) = false) : filA s n tn = true := by
  unfold filA
  rw [any_no hk h, decide_eq_true hn]
  rfl

attribute [local simp] runs gd step1 need evu un opnds opv ev cst cst1 cstL getT getH putT onL nxt argT cellsOf PV.one thn inBlk jmp fldP ldP ldC live Cells.len Cells.get Cells.w sug ldv bin eqF eq1 ops2 sh2 binv Tk.agg stC apC rdS apS mvL zp argsP idx fillP toInts chunks mkC ixS ixA oidx slP sl0 mxF bltn frzA frz frzL frz1 pur1 Cells.pur PV.scal scal1 runD rdO PV.ids id1 zids ety Eff.on cnd minb and1b ifmax ifmin mxv sugI strv w0 w1 w2 wm1
theorem idxI2_ok (xs : List Int) (f : Nat) (cs ds : Cells) (p : Int → Bool) (hf : ∀ n, PCall Try.prog f [.int .i64 n, .rop cs 0 0, .rop ds 0 0] (.bool (p n))) (hx : xs.length ≤ 140737488355328) : PCall Try.prog 106 [.ro (.ints .i64 xs), .fn f [.rop cs 0 0, .rop ds 0 0]] (.int .i64 (idxF p xs)) := by
  refine pcall_body ty_ok Try.func106 rfl (by rfl) (by simp) ?_
  rw [Try.ntmps106]
  refine swp_seq fun K1 hK1 => ?_
  refine swp_region ty_ok ?_
  try simp (maxSteps := 1000000)
  repeat' (first | apply And.intro | intro _)
  any_goals (first | (refine hK1 _ ?_; clear hK1) | (first | omega | (simp only [IntKind.wrap_i64] at *; omega) | (simp_all; done) | (simp_all; omega)))
  refine swp_seq fun K2 hK2 => ?_
  refine swp_seq fun K3 hK3 => ?_
  refine swp_region ty_ok ?_
  try simp (maxSteps := 1000000)
  repeat' (first | apply And.intro | intro _)
  any_goals (first | (refine hK3 _ ?_; clear hK3) | (first | omega | (simp only [IntKind.wrap_i64] at *; omega) | (simp_all; done) | (simp_all; omega)))
  refine swp_block ?_
  refine swp_loop 0 (fun m_ s_ => ∃ (k : Nat), (k ≤ xs.length) ∧ (∀ j < k, p (xs[j]?.getD 0) = false) ∧ s_ = ⟨[(0, .ro (.ints .i64 xs)), (1, .fn f [.rop cs 0 0, .rop ds 0 0]), (6, .ro (.ints .i64 xs)), (7, .int .i64 (xs.length : Nat)), (8, .int .i64 (k : Nat))], [], 0⟩ ∧ m_ = xs.length - k) _ ⟨[(0, .ro (.ints .i64 xs)), (1, .fn f [.rop cs 0 0, .rop ds 0 0]), (6, .ro (.ints .i64 xs)), (7, .int .i64 (xs.length : Nat)), (8, .int .i64 (0 : Nat))], [], 0⟩ ⟨by simp [getT, PV.lo, lo1], by simp [getH, Blk.lo, Cells.lo, lo1], rfl, by omega⟩ ⟨(0), by omega, by simp, rfl, rfl⟩ ?_
  rintro m_ s_ ⟨k, hL4_0, hL4_1, rfl, rfl⟩ KL4 hL4
  have hkw : IntKind.i64.wrap ((k : Int) + 1) = (((k + 1 : Nat)) : Int) := wnext (by omega)
  refine swp_seq fun K5 hK5 => ?_
  refine swp_region ty_ok ?_
  try simp (maxSteps := 1000000)
  repeat' (first | apply And.intro | intro _)
  any_goals (first | (refine hK5 _ ?_; clear hK5) | (first | omega | (simp only [IntKind.wrap_i64] at *; omega) | (simp_all; done) | (simp_all; omega)))
  refine swp_seq fun K6 hK6 => ?_
  refine swp_if fun C7 hC7 => ?_
  try simp (maxSteps := 1000000)
  refine hC7 _ (fun hc7 => ?_) (fun hc7 => ?_)
  · clear hC7
    try simp at hc7
    refine swp_skip ?_
    simp only [thn, inBlk]
    refine hK6 _ ?_; clear hK6
    refine swp_seq fun K8 hK8 => ?_
    refine swp_block ?_
    refine swp_seq fun K9 hK9 => ?_
    refine swp_region ty_ok ?_
    try simp (maxSteps := 1000000)
    repeat' (first | apply And.intro | intro _)
    any_goals (first | (refine hK9 _ ?_; clear hK9) | (first | omega | (simp only [IntKind.wrap_i64] at *; omega) | (simp_all; done) | (simp_all; omega)))
    refine swp_seq fun K10 hK10 => ?_
    refine swp_region ty_ok ?_
    refine runs_cut 5 fun R11 hR11 => ?_
    try simp (maxSteps := 1000000) [List.take_succ_cons, List.take_zero, List.drop_succ_cons, List.drop_zero]
    repeat' (first | apply And.intro | intro _)
    any_goals (first | (refine hR11 _ ?_; clear hR11) | (first | omega | (simp only [IntKind.wrap_i64] at *; omega) | (simp_all; done) | (simp_all; omega)))
    try simp (maxSteps := 1000000) [List.take_succ_cons, List.take_zero, List.drop_succ_cons, List.drop_zero]
    refine .inl ⟨_, hf _, ?_⟩
    try simp (maxSteps := 1000000)
    repeat' (first | apply And.intro | intro _)
    any_goals (first | (refine hK10 _ ?_; clear hK10) | (first | omega | (simp only [IntKind.wrap_i64] at *; omega) | (simp_all; done) | (simp_all; omega)))
    refine swp_if fun C12 hC12 => ?_
    try simp (maxSteps := 1000000)
    refine hC12 _ (fun hc12 => ?_) (fun hc12 => ?_)
    · clear hC12
      try simp at hc12
      refine swp_seq fun K13 hK13 => ?_
      refine swp_region ty_ok ?_
      try simp (maxSteps := 1000000)
      repeat' (first | apply And.intro | intro _)
      any_goals (first | (refine hK13 _ ?_; clear hK13) | (first | omega | (simp only [IntKind.wrap_i64] at *; omega) | (simp_all; done) | (simp_all; omega)))
      refine swp_ret ?_
      simp [fnPost, Try.results106, resP, tupOf]
      exact (idxF_at (by omega) (by assumption) hc12).symm
    · clear hC12
      try simp at hc12
      refine swp_skip ?_
      simp only [thn, inBlk]
      refine hK8 _ ?_; clear hK8
      refine swp_region ty_ok ?_
      try simp (maxSteps := 1000000)
      repeat' apply And.intro
      any_goals (try omega)
      refine hL4 _ ⟨[(0, .ro (.ints .i64 xs)), (1, .fn f [.rop cs 0 0, .rop ds 0 0]), (6, .ro (.ints .i64 xs)), (7, .int .i64 (xs.length : Nat)), (8, .int .i64 ((k + 1) : Nat))], [], 0⟩ _ ?_ ⟨(k + 1), by omega, by (refine lt_step (by assumption) ?_; simpa using hc12), rfl, rfl⟩ ⟨by simp [getT, PV.lo, lo1, hkw], by simp [getH, Blk.lo, Cells.lo, lo1], rfl, by omega⟩
      omega
  · clear hC7
    try simp at hc7
    refine swp_exit ?_
    simp [thn, inBlk]
    refine hK2 _ ?_; clear hK2
    refine swp_seq fun K14 hK14 => ?_
    refine swp_region ty_ok ?_
    try simp (maxSteps := 1000000)
    repeat' (first | apply And.intro | intro _)
    any_goals (first | (refine hK14 _ ?_; clear hK14) | (first | omega | (simp only [IntKind.wrap_i64] at *; omega) | (simp_all; done) | (simp_all; omega)))
    refine swp_ret ?_
    simp [fnPost, Try.results106, resP, tupOf]
    exact (idxF_no (by omega) (by assumption)).symm

theorem conI2_ok (xs : List Int) (f : Nat) (cs ds : Cells) (p : Int → Bool) (hf : ∀ n, PCall Try.prog f [.int .i64 n, .rop cs 0 0, .rop ds 0 0] (.bool (p n))) (hx : xs.length ≤ 140737488355328) : PCall Try.prog 91 [.ro (.ints .i64 xs), .fn f [.rop cs 0 0, .rop ds 0 0]] (.bool (xs.any p)) := by
  refine pcall_body ty_ok Try.func91 rfl (by rfl) (by simp) ?_
  rw [Try.ntmps91]
  refine swp_seq fun K1 hK1 => ?_
  refine swp_region ty_ok ?_
  try simp (maxSteps := 1000000)
  repeat' (first | apply And.intro | intro _)
  any_goals (first | (refine hK1 _ ?_; clear hK1) | (first | omega | (simp only [IntKind.wrap_i64] at *; omega) | (simp_all; done) | (simp_all; omega)))
  refine swp_seq fun K2 hK2 => ?_
  refine swp_region ty_ok ?_
  refine runs_cut 2 fun R3 hR3 => ?_
  try simp (maxSteps := 1000000) [List.take_succ_cons, List.take_zero, List.drop_succ_cons, List.drop_zero]
  repeat' (first | apply And.intro | intro _)
  any_goals (first | (refine hR3 _ ?_; clear hR3) | (first | omega | (simp only [IntKind.wrap_i64] at *; omega) | (simp_all; done) | (simp_all; omega)))
  refine runs_cut 1 fun R4 hR4 => ?_
  try simp (maxSteps := 1000000) [List.take_succ_cons, List.take_zero, List.drop_succ_cons, List.drop_zero]
  refine .inl ⟨_, idxI2_ok xs f cs ds p hf hx, ?_⟩
  try simp (maxSteps := 1000000)
  repeat' (first | apply And.intro | intro _)
  any_goals (first | (refine hR4 _ ?_; clear hR4) | (first | omega | (simp only [IntKind.wrap_i64] at *; omega) | (simp_all; done) | (simp_all; omega)))
  try simp (maxSteps := 1000000) [List.take_succ_cons, List.take_zero, List.drop_succ_cons, List.drop_zero]
  repeat' (first | apply And.intro | intro _)
  any_goals (first | (refine hK2 _ ?_; clear hK2) | (first | omega | (simp only [IntKind.wrap_i64] at *; omega) | (simp_all; done) | (simp_all; omega)))
  refine swp_ret ?_
  simp [fnPost, Try.results91, resP, tupOf]
  exact (idxF_ge p xs).symm

set_option maxHeartbeats 4000000 in
theorem lane_filter_ok (s : Int) (f : Fl) (hf : f.co.length ≤ 140737488355328) : PCall Try.prog 97 [.agg [.int .i64 f.len, .int .i64 f.order, .bool f.down, .bool f.fine, .ro (.ints .i64 f.co)], .bool (decide (s = 2))] (.bool (rightB s f)) := by
  refine pcall_body ty_ok Try.func97 rfl (by rfl) (by simp) ?_
  rw [Try.ntmps97]
  refine swp_seq fun K1 hK1 => ?_
  refine swp_region ty_ok ?_
  try simp (maxSteps := 1000000)
  repeat' (first | apply And.intro | intro _)
  any_goals (first | (refine hK1 _ ?_; clear hK1) | (first | omega | (simp only [IntKind.wrap_i64] at *; omega) | (simp_all; done) | (simp_all; omega)))
  refine swp_seq fun K2 hK2 => ?_
  refine swp_region ty_ok ?_
  try simp (maxSteps := 1000000)
  repeat' (first | apply And.intro | intro _)
  any_goals (first | (refine hK2 _ ?_; clear hK2) | (first | omega | (simp only [IntKind.wrap_i64] at *; omega) | (simp_all; done) | (simp_all; omega)))
  refine swp_seq fun K3 hK3 => ?_
  refine swp_seq fun K4 hK4 => ?_
  refine swp_region ty_ok ?_
  try simp (maxSteps := 1000000)
  repeat' (first | apply And.intro | intro _)
  any_goals (first | (refine hK4 _ ?_; clear hK4) | (first | omega | (simp only [IntKind.wrap_i64] at *; omega) | (simp_all; done) | (simp_all; omega)))
  refine swp_if fun C5 hC5 => ?_
  try simp (maxSteps := 1000000)
  refine hC5 _ (fun hc5 => ?_) (fun hc5 => ?_)
  · clear hC5
    try simp at hc5
    have hs : s = 2 := by assumption
    have ht : top1 s = 15 + 1 := if_pos hs
    have ho : sz4 s = 7 := if_pos hs
    refine swp_region ty_ok ?_
    try simp (maxSteps := 1000000)
    repeat' (first | apply And.intro | intro _)
    any_goals (first | (refine hK3 _ ?_; clear hK3) | (first | omega | (simp only [IntKind.wrap_i64] at *; omega) | (simp_all; done) | (simp_all; omega)))
    refine swp_seq fun K6 hK6 => ?_
    refine swp_seq fun K7 hK7 => ?_
    try have hs : ¬ s = 2 := by assumption
    try have ht : top1 s = 63 + 1 := if_neg hs
    try have ho : sz4 s = 12 := if_neg hs
    refine swp_region ty_ok ?_
    refine runs_cut 9 fun R8 hR8 => ?_
    try simp (maxSteps := 1000000) [List.take_succ_cons, List.take_zero, List.drop_succ_cons, List.drop_zero]
    repeat' (first | apply And.intro | intro _)
    any_goals (first | (refine hR8 _ ?_; clear hR8) | (first | omega | (simp only [IntKind.wrap_i64] at *; omega) | (simp_all; done) | (simp_all; omega)))
    refine runs_cut 9 fun R9 hR9 => ?_
    try simp (maxSteps := 1000000) [List.take_succ_cons, List.take_zero, List.drop_succ_cons, List.drop_zero]
    repeat' (first | apply And.intro | intro _)
    any_goals (first | (refine hR9 _ ?_; clear hR9) | (first | omega | (simp only [IntKind.wrap_i64] at *; omega) | (simp_all; done) | (simp_all; omega)))
    refine runs_cut 9 fun R10 hR10 => ?_
    try simp (maxSteps := 1000000) [List.take_succ_cons, List.take_zero, List.drop_succ_cons, List.drop_zero]
    repeat' (first | apply And.intro | intro _)
    any_goals (first | (refine hR10 _ ?_; clear hR10) | (first | omega | (simp only [IntKind.wrap_i64] at *; omega) | (simp_all; done) | (simp_all; omega)))
    try simp (maxSteps := 1000000) [List.take_succ_cons, List.take_zero, List.drop_succ_cons, List.drop_zero]
    repeat' (first | apply And.intro | intro _)
    any_goals (first | (refine hK7 _ ?_; clear hK7) | (first | omega | (simp only [IntKind.wrap_i64] at *; omega) | (simp_all; done) | (simp_all; omega)))
    refine swp_if fun C11 hC11 => ?_
    try simp (maxSteps := 1000000)
    refine hC11 _ (fun hc11 => ?_) (fun hc11 => ?_)
    · clear hC11
      try simp at hc11
      refine swp_seq fun K12 hK12 => ?_
      refine swp_region ty_ok ?_
      try simp (maxSteps := 1000000)
      repeat' (first | apply And.intro | intro _)
      any_goals (first | (refine hK12 _ ?_; clear hK12) | (first | omega | (simp only [IntKind.wrap_i64] at *; omega) | (simp_all; done) | (simp_all; omega)))
      refine swp_ret ?_
      simp [fnPost, Try.results97, resP, tupOf]
      exact rgt_no ht ho hc11
    · clear hC11
      try simp at hc11
      refine swp_skip ?_
      simp only [thn, inBlk]
      refine hK6 _ ?_; clear hK6
      refine swp_seq fun K13 hK13 => ?_
      refine swp_region ty_ok ?_
      try simp (maxSteps := 1000000)
      repeat' (first | apply And.intro | intro _)
      any_goals (first | (refine hK13 _ ?_; clear hK13) | (first | omega | (simp only [IntKind.wrap_i64] at *; omega) | (simp_all; done) | (simp_all; omega)))
      refine swp_seq fun K14 hK14 => ?_
      refine swp_seq fun K15 hK15 => ?_
      have hry := rgt_yes ht ho hc11
      refine swp_region ty_ok ?_
      try simp (maxSteps := 1000000)
      repeat' (first | apply And.intro | intro _)
      any_goals (first | (refine hK15 _ ?_; clear hK15) | (first | omega | (simp only [IntKind.wrap_i64] at *; omega) | (simp_all; done) | (simp_all; omega)))
      refine swp_if fun C16 hC16 => ?_
      try simp (maxSteps := 1000000)
      refine hC16 _ (fun hc16 => ?_) (fun hc16 => ?_)
      · clear hC16
        try simp at hc16
        refine swp_region ty_ok ?_
        try simp (maxSteps := 1000000)
        repeat' (first | apply And.intro | intro _)
        any_goals (first | (refine hK14 _ ?_; clear hK14) | (first | omega | (simp only [IntKind.wrap_i64] at *; omega) | (simp_all; done) | (simp_all; omega)))
        refine swp_seq fun K17 hK17 => ?_
        refine swp_region ty_ok ?_
        refine runs_cut 3 fun R18 hR18 => ?_
        try simp (maxSteps := 1000000) [List.take_succ_cons, List.take_zero, List.drop_succ_cons, List.drop_zero]
        repeat' (first | apply And.intro | intro _)
        any_goals (first | (refine hR18 _ ?_; clear hR18) | (first | omega | (simp only [IntKind.wrap_i64] at *; omega) | (simp_all; done) | (simp_all; omega)))
        refine runs_cut 1 fun R19 hR19 => ?_
        try simp (maxSteps := 1000000) [List.take_succ_cons, List.take_zero, List.drop_succ_cons, List.drop_zero]
        first | refine .inl ⟨_, conI2_ok f.co _ _ _ (outF 4) (fun n => by have h := lfil1_ok (-8) 7 n; rw [out4] at h; exact h) hf, ?_⟩ | refine .inl ⟨_, conI2_ok f.co _ _ _ (outF 3) (fun n => by have h := lfil1_ok (-4) 3 n; rw [out3] at h; exact h) hf, ?_⟩
        try simp (maxSteps := 1000000)
        repeat' (first | apply And.intro | intro _)
        any_goals (first | (refine hR19 _ ?_; clear hR19) | (first | omega | (simp only [IntKind.wrap_i64] at *; omega) | (simp_all; done) | (simp_all; omega)))
        try simp (maxSteps := 1000000) [List.take_succ_cons, List.take_zero, List.drop_succ_cons, List.drop_zero]
        repeat' (first | apply And.intro | intro _)
        any_goals (first | (refine hK17 _ ?_; clear hK17) | (first | omega | (simp only [IntKind.wrap_i64] at *; omega) | (simp_all; done) | (simp_all; omega)))
        refine swp_ret ?_
        simp [fnPost, Try.results97, resP, tupOf]
        rw [hry, fitB, (by assumption : f.fine = true)]; rfl
      · clear hC16
        try simp at hc16
        refine swp_skip ?_
        simp only [thn, inBlk]
        refine hK14 _ ?_; clear hK14
        refine swp_seq fun K20 hK20 => ?_
        refine swp_region ty_ok ?_
        refine runs_cut 3 fun R21 hR21 => ?_
        try simp (maxSteps := 1000000) [List.take_succ_cons, List.take_zero, List.drop_succ_cons, List.drop_zero]
        repeat' (first | apply And.intro | intro _)
        any_goals (first | (refine hR21 _ ?_; clear hR21) | (first | omega | (simp only [IntKind.wrap_i64] at *; omega) | (simp_all; done) | (simp_all; omega)))
        refine runs_cut 1 fun R22 hR22 => ?_
        try simp (maxSteps := 1000000) [List.take_succ_cons, List.take_zero, List.drop_succ_cons, List.drop_zero]
        first | refine .inl ⟨_, conI2_ok f.co _ _ _ (outF 4) (fun n => by have h := lfil1_ok (-8) 7 n; rw [out4] at h; exact h) hf, ?_⟩ | refine .inl ⟨_, conI2_ok f.co _ _ _ (outF 3) (fun n => by have h := lfil1_ok (-4) 3 n; rw [out3] at h; exact h) hf, ?_⟩
        try simp (maxSteps := 1000000)
        repeat' (first | apply And.intro | intro _)
        any_goals (first | (refine hR22 _ ?_; clear hR22) | (first | omega | (simp only [IntKind.wrap_i64] at *; omega) | (simp_all; done) | (simp_all; omega)))
        try simp (maxSteps := 1000000) [List.take_succ_cons, List.take_zero, List.drop_succ_cons, List.drop_zero]
        repeat' (first | apply And.intro | intro _)
        any_goals (first | (refine hK20 _ ?_; clear hK20) | (first | omega | (simp only [IntKind.wrap_i64] at *; omega) | (simp_all; done) | (simp_all; omega)))
        refine swp_ret ?_
        simp [fnPost, Try.results97, resP, tupOf]
        rw [hry, fitB, (by assumption : f.fine = false)]; rfl
  · clear hC5
    try simp at hc5
    refine swp_skip ?_
    simp only [thn, inBlk]
    refine hK3 _ ?_; clear hK3
    refine swp_seq fun K23 hK23 => ?_
    refine swp_seq fun K24 hK24 => ?_
    try have hs : ¬ s = 2 := by assumption
    try have ht : top1 s = 63 + 1 := if_neg hs
    try have ho : sz4 s = 12 := if_neg hs
    refine swp_region ty_ok ?_
    refine runs_cut 9 fun R25 hR25 => ?_
    try simp (maxSteps := 1000000) [List.take_succ_cons, List.take_zero, List.drop_succ_cons, List.drop_zero]
    repeat' (first | apply And.intro | intro _)
    any_goals (first | (refine hR25 _ ?_; clear hR25) | (first | omega | (simp only [IntKind.wrap_i64] at *; omega) | (simp_all; done) | (simp_all; omega)))
    refine runs_cut 9 fun R26 hR26 => ?_
    try simp (maxSteps := 1000000) [List.take_succ_cons, List.take_zero, List.drop_succ_cons, List.drop_zero]
    repeat' (first | apply And.intro | intro _)
    any_goals (first | (refine hR26 _ ?_; clear hR26) | (first | omega | (simp only [IntKind.wrap_i64] at *; omega) | (simp_all; done) | (simp_all; omega)))
    refine runs_cut 9 fun R27 hR27 => ?_
    try simp (maxSteps := 1000000) [List.take_succ_cons, List.take_zero, List.drop_succ_cons, List.drop_zero]
    repeat' (first | apply And.intro | intro _)
    any_goals (first | (refine hR27 _ ?_; clear hR27) | (first | omega | (simp only [IntKind.wrap_i64] at *; omega) | (simp_all; done) | (simp_all; omega)))
    try simp (maxSteps := 1000000) [List.take_succ_cons, List.take_zero, List.drop_succ_cons, List.drop_zero]
    repeat' (first | apply And.intro | intro _)
    any_goals (first | (refine hK24 _ ?_; clear hK24) | (first | omega | (simp only [IntKind.wrap_i64] at *; omega) | (simp_all; done) | (simp_all; omega)))
    refine swp_if fun C28 hC28 => ?_
    try simp (maxSteps := 1000000)
    refine hC28 _ (fun hc28 => ?_) (fun hc28 => ?_)
    · clear hC28
      try simp at hc28
      refine swp_seq fun K29 hK29 => ?_
      refine swp_region ty_ok ?_
      try simp (maxSteps := 1000000)
      repeat' (first | apply And.intro | intro _)
      any_goals (first | (refine hK29 _ ?_; clear hK29) | (first | omega | (simp only [IntKind.wrap_i64] at *; omega) | (simp_all; done) | (simp_all; omega)))
      refine swp_ret ?_
      simp [fnPost, Try.results97, resP, tupOf]
      exact rgt_no ht ho hc28
    · clear hC28
      try simp at hc28
      refine swp_skip ?_
      simp only [thn, inBlk]
      refine hK23 _ ?_; clear hK23
      refine swp_seq fun K30 hK30 => ?_
      refine swp_region ty_ok ?_
      try simp (maxSteps := 1000000)
      repeat' (first | apply And.intro | intro _)
      any_goals (first | (refine hK30 _ ?_; clear hK30) | (first | omega | (simp only [IntKind.wrap_i64] at *; omega) | (simp_all; done) | (simp_all; omega)))
      refine swp_seq fun K31 hK31 => ?_
      refine swp_seq fun K32 hK32 => ?_
      have hry := rgt_yes ht ho hc28
      refine swp_region ty_ok ?_
      try simp (maxSteps := 1000000)
      repeat' (first | apply And.intro | intro _)
      any_goals (first | (refine hK32 _ ?_; clear hK32) | (first | omega | (simp only [IntKind.wrap_i64] at *; omega) | (simp_all; done) | (simp_all; omega)))
      refine swp_if fun C33 hC33 => ?_
      try simp (maxSteps := 1000000)
      refine hC33 _ (fun hc33 => ?_) (fun hc33 => ?_)
      · clear hC33
        try simp at hc33
        refine swp_region ty_ok ?_
        try simp (maxSteps := 1000000)
        repeat' (first | apply And.intro | intro _)
        any_goals (first | (refine hK31 _ ?_; clear hK31) | (first | omega | (simp only [IntKind.wrap_i64] at *; omega) | (simp_all; done) | (simp_all; omega)))
        refine swp_seq fun K34 hK34 => ?_
        refine swp_region ty_ok ?_
        refine runs_cut 3 fun R35 hR35 => ?_
        try simp (maxSteps := 1000000) [List.take_succ_cons, List.take_zero, List.drop_succ_cons, List.drop_zero]
        repeat' (first | apply And.intro | intro _)
        any_goals (first | (refine hR35 _ ?_; clear hR35) | (first | omega | (simp only [IntKind.wrap_i64] at *; omega) | (simp_all; done) | (simp_all; omega)))
        refine runs_cut 1 fun R36 hR36 => ?_
        try simp (maxSteps := 1000000) [List.take_succ_cons, List.take_zero, List.drop_succ_cons, List.drop_zero]
        first | refine .inl ⟨_, conI2_ok f.co _ _ _ (outF 4) (fun n => by have h := lfil1_ok (-8) 7 n; rw [out4] at h; exact h) hf, ?_⟩ | refine .inl ⟨_, conI2_ok f.co _ _ _ (outF 3) (fun n => by have h := lfil1_ok (-4) 3 n; rw [out3] at h; exact h) hf, ?_⟩
        try simp (maxSteps := 1000000)
        repeat' (first | apply And.intro | intro _)
        any_goals (first | (refine hR36 _ ?_; clear hR36) | (first | omega | (simp only [IntKind.wrap_i64] at *; omega) | (simp_all; done) | (simp_all; omega)))
        try simp (maxSteps := 1000000) [List.take_succ_cons, List.take_zero, List.drop_succ_cons, List.drop_zero]
        repeat' (first | apply And.intro | intro _)
        any_goals (first | (refine hK34 _ ?_; clear hK34) | (first | omega | (simp only [IntKind.wrap_i64] at *; omega) | (simp_all; done) | (simp_all; omega)))
        refine swp_ret ?_
        simp [fnPost, Try.results97, resP, tupOf]
        rw [hry, fitB, (by assumption : f.fine = true)]; rfl
      · clear hC33
        try simp at hc33
        refine swp_skip ?_
        simp only [thn, inBlk]
        refine hK31 _ ?_; clear hK31
        refine swp_seq fun K37 hK37 => ?_
        refine swp_region ty_ok ?_
        refine runs_cut 3 fun R38 hR38 => ?_
        try simp (maxSteps := 1000000) [List.take_succ_cons, List.take_zero, List.drop_succ_cons, List.drop_zero]
        repeat' (first | apply And.intro | intro _)
        any_goals (first | (refine hR38 _ ?_; clear hR38) | (first | omega | (simp only [IntKind.wrap_i64] at *; omega) | (simp_all; done) | (simp_all; omega)))
        refine runs_cut 1 fun R39 hR39 => ?_
        try simp (maxSteps := 1000000) [List.take_succ_cons, List.take_zero, List.drop_succ_cons, List.drop_zero]
        first | refine .inl ⟨_, conI2_ok f.co _ _ _ (outF 4) (fun n => by have h := lfil1_ok (-8) 7 n; rw [out4] at h; exact h) hf, ?_⟩ | refine .inl ⟨_, conI2_ok f.co _ _ _ (outF 3) (fun n => by have h := lfil1_ok (-4) 3 n; rw [out3] at h; exact h) hf, ?_⟩
        try simp (maxSteps := 1000000)
        repeat' (first | apply And.intro | intro _)
        any_goals (first | (refine hR39 _ ?_; clear hR39) | (first | omega | (simp only [IntKind.wrap_i64] at *; omega) | (simp_all; done) | (simp_all; omega)))
        try simp (maxSteps := 1000000) [List.take_succ_cons, List.take_zero, List.drop_succ_cons, List.drop_zero]
        repeat' (first | apply And.intro | intro _)
        any_goals (first | (refine hK37 _ ?_; clear hK37) | (first | omega | (simp only [IntKind.wrap_i64] at *; omega) | (simp_all; done) | (simp_all; omega)))
        refine swp_ret ?_
        simp [fnPost, Try.results97, resP, tupOf]
        rw [hry, fitB, (by assumption : f.fine = false)]; rfl

theorem lfs1_ok (s : Int) (ws : List Fl) (f : Fl) (h0 : 0 < ws.length) (hf : f.co.length ≤ 140737488355328) : PCall Try.prog 96 [.agg [.int .i64 f.len, .int .i64 f.order, .bool f.down, .bool f.fine, .ro (.ints .i64 f.co)], .rop (.rows 1 [[.bool (decide (s = 2))]]) 0 0, .rop (.rows 1 [[.ro (.rows 5 (ws.map Fl.row))]]) 0 0] (.bool (badF s ws f)) := by
  have hrow := row_at h0
  refine pcall_body ty_ok Try.func96 rfl (by rfl) (by simp) ?_
  rw [Try.ntmps96]
  refine swp_seq fun K1 hK1 => ?_
  refine swp_region ty_ok ?_
  try simp (maxSteps := 1000000) [hrow]
  repeat' (first | apply And.intro | intro _)
  any_goals (first | (refine hK1 _ ?_; clear hK1) | (first | omega | (simp only [IntKind.wrap_i64] at *; omega) | (simp_all; done) | (simp_all; omega)))
  refine swp_seq fun K2 hK2 => ?_
  refine swp_draw ty_ok mixed (ms := [0, 0, 3, 7, 15, 31, 63, 31, 159, 415, 927, 2047, 4095, 8191]) (by kernel_rfl) ?_
  refine runD_cut 2 fun R3 hR3 => ?_
  try simp (maxSteps := 1000000) [hrow, List.take_succ_cons, List.take_zero, List.drop_succ_cons, List.drop_zero]
  repeat' (first | apply And.intro | intro _)
  any_goals (first | (refine hR3 _ _ _ _ ?_; clear hR3) | (first | omega | (simp only [IntKind.wrap_i64] at *; omega) | (simp_all; done) | (simp_all; omega)))
  refine runD_cut 1 fun R4 hR4 => ?_
  try simp (maxSteps := 1000000) [hrow, List.take_succ_cons, List.take_zero, List.drop_succ_cons, List.drop_zero]
  refine .inl ⟨_, lane_filter_ok s f hf, ?_⟩
  try simp (maxSteps := 1000000) [hrow]
  repeat' (first | apply And.intro | intro _)
  any_goals (first | (refine hR4 _ _ _ _ ?_; clear hR4) | (first | omega | (simp only [IntKind.wrap_i64] at *; omega) | (simp_all; done) | (simp_all; omega)))
  try simp (maxSteps := 1000000) [hrow, List.take_succ_cons, List.take_zero, List.drop_succ_cons, List.drop_zero]
  repeat' (first | apply And.intro | intro _)
  any_goals (first | kernel_rfl | (refine hK2 _ ?_; clear hK2) | (first | omega | (simp only [IntKind.wrap_i64] at *; omega) | (simp_all; done) | (simp_all; omega)))
  refine swp_ret ?_
  simp [fnPost, Try.results96, resP, tupOf]
  simp [badF]

theorem lcon_ok (s : Int) (ws : List Fl) (hx : ws.length ≤ 140737488355328) (hc : ∀ f ∈ ws, f.co.length ≤ 140737488355328) :
    PCall Try.prog 56 [.ro (.rows 5 (ws.map Fl.row)), .fn 96 [.rop (.rows 1 [[.bool (decide (s = 2))]]) 0 0, .rop (.rows 1 [[.ro (.rows 5 (ws.map Fl.row))]]) 0 0]] (.bool (ws.any (badF s ws))) :=
  conT_ok ws _ _ _ (badF s ws) (fun f hf => lfs1_ok s ws f (by cases ws with | nil => simp at hf | cons => simp) (hc f hf)) hx

set_option maxHeartbeats 4000000 in
theorem lane_filters_ok (ga s sh m : Int) (g : List Int) (se : List (List Sc)) (st : List (List Int)) (tn : List (List Fl)) (ln : List Int) (n : Int) (hl : tn.length ≤ 1000) (hw : ∀ w ∈ tn, w.length ≤ 1000 ∧ ∀ f ∈ w, f.co.length ≤ 1000) : PCall Try.prog 76 [.agg [.int .i64 ga, .int .u8 s, .int .u8 sh, .int .i64 m, .ro (.ints .i64 g), .ro (.rows 1 (se.map fun w => [.ro (.rows 2 (w.map Sc.row))])), .ro (.rows 1 (st.map fun w => [.ro (.ints .i64 w)])), .ro (.rows 1 (tn.map fun w => [.ro (.rows 5 (w.map Fl.row))])), .ro (.ints .i64 ln)], .int .i64 n] (.bool (filA s n tn)) := by
  refine pcall_body ty_ok Try.func76 rfl (by rfl) (by simp) ?_
  rw [Try.ntmps76]
  refine swp_seq fun K1 hK1 => ?_
  refine swp_region ty_ok ?_
  try simp (maxSteps := 1000000)
  repeat' (first | apply And.intro | intro _)
  any_goals (first | (refine hK1 _ ?_; clear hK1) | (first | omega | (simp only [IntKind.wrap_i64] at *; omega) | (simp_all; done) | (simp_all; omega)))
  refine swp_seq fun K2 hK2 => ?_
  refine swp_region ty_ok ?_
  try simp (maxSteps := 1000000)
  repeat' (first | apply And.intro | intro _)
  any_goals (first | (refine hK2 _ ?_; clear hK2) | (first | omega | (simp only [IntKind.wrap_i64] at *; omega) | (simp_all; done) | (simp_all; omega)))
  refine swp_seq fun K3 hK3 => ?_
  refine swp_region ty_ok ?_
  try simp (maxSteps := 1000000)
  repeat' (first | apply And.intro | intro _)
  any_goals (first | (refine hK3 _ ?_; clear hK3) | (first | omega | (simp only [IntKind.wrap_i64] at *; omega) | (simp_all; done) | (simp_all; omega)))
  refine swp_seq fun K4 hK4 => ?_
  refine swp_seq fun K5 hK5 => ?_
  refine swp_region ty_ok ?_
  try simp (maxSteps := 1000000)
  repeat' (first | apply And.intro | intro _)
  any_goals (first | (refine hK5 _ ?_; clear hK5) | (first | omega | (simp only [IntKind.wrap_i64] at *; omega) | (simp_all; done) | (simp_all; omega)))
  refine swp_if fun C6 hC6 => ?_
  try simp (maxSteps := 1000000)
  refine hC6 _ (fun hc6 => ?_) (fun hc6 => ?_)
  · clear hC6
    try simp at hc6
    have hs : s = 2 := by assumption
    have ho : sz3 s = 1 := if_pos hs
    refine swp_region ty_ok ?_
    try simp (maxSteps := 1000000)
    repeat' (first | apply And.intro | intro _)
    any_goals (first | (refine hK4 _ ?_; clear hK4) | (first | omega | (simp only [IntKind.wrap_i64] at *; omega) | (simp_all; done) | (simp_all; omega)))
    refine swp_seq fun K7 hK7 => ?_
    refine swp_seq fun K8 hK8 => ?_
    try have hs : ¬ s = 2 := by assumption
    try have ho : sz3 s = 3 := if_neg hs
    refine swp_region ty_ok ?_
    try simp (maxSteps := 1000000)
    repeat' (first | apply And.intro | intro _)
    any_goals (first | (refine hK8 _ ?_; clear hK8) | (first | omega | (simp only [IntKind.wrap_i64] at *; omega) | (simp_all; done) | (simp_all; omega)))
    refine swp_if fun C9 hC9 => ?_
    try simp (maxSteps := 1000000)
    refine hC9 _ (fun hc9 => ?_) (fun hc9 => ?_)
    · clear hC9
      try simp at hc9
      refine swp_seq fun K10 hK10 => ?_
      refine swp_region ty_ok ?_
      try simp (maxSteps := 1000000)
      repeat' (first | apply And.intro | intro _)
      any_goals (first | (refine hK10 _ ?_; clear hK10) | (first | omega | (simp only [IntKind.wrap_i64] at *; omega) | (simp_all; done) | (simp_all; omega)))
      refine swp_ret ?_
      simp [fnPost, Try.results76, resP, tupOf]
      rw [filA, decide_eq_false (by omega)]; rfl
    · clear hC9
      try simp at hc9
      refine swp_skip ?_
      simp only [thn, inBlk]
      refine hK7 _ ?_; clear hK7
      refine swp_seq fun K11 hK11 => ?_
      refine swp_seq fun K12 hK12 => ?_
      refine swp_region ty_ok ?_
      try simp (maxSteps := 1000000)
      repeat' (first | apply And.intro | intro _)
      any_goals (first | (refine hK12 _ ?_; clear hK12) | (first | omega | (simp only [IntKind.wrap_i64] at *; omega) | (simp_all; done) | (simp_all; omega)))
      refine swp_block ?_
      refine swp_loop 2 (fun m_ s_ => ∃ (k : Nat), (k ≤ tn.length) ∧ (∀ j < k, badW s (tn[j]?.getD []) = false) ∧ s_ = ⟨[(2, .ptr 0 0 0 1), (5, .ptr 1 0 0 1), (6, .int .i64 1), (20, .ro (.rows 1 (tn.map fun w => [.ro (.rows 5 (w.map Fl.row))]))), (21, .int .i64 (tn.length : Nat)), (22, .int .i64 (k : Nat))], [(0, some ⟨.rows 9 [[.int .i64 ga, .int .u8 s, .int .u8 sh, .int .i64 m, .ro (.ints .i64 g), .ro (.rows 1 (se.map fun w => [.ro (.rows 2 (w.map Sc.row))])), .ro (.rows 1 (st.map fun w => [.ro (.ints .i64 w)])), .ro (.rows 1 (tn.map fun w => [.ro (.rows 5 (w.map Fl.row))])), .ro (.ints .i64 ln)]], true, 29⟩), (1, some ⟨.rows 1 [[.bool (decide (s = 2))]], true, 4⟩)], 2⟩ ∧ m_ = tn.length - k) _ ⟨[(2, .ptr 0 0 0 1), (5, .ptr 1 0 0 1), (6, .int .i64 1), (20, .ro (.rows 1 (tn.map fun w => [.ro (.rows 5 (w.map Fl.row))]))), (21, .int .i64 (tn.length : Nat)), (22, .int .i64 (0 : Nat))], [(0, some ⟨.rows 9 [[.int .i64 ga, .int .u8 s, .int .u8 sh, .int .i64 m, .ro (.ints .i64 g), .ro (.rows 1 (se.map fun w => [.ro (.rows 2 (w.map Sc.row))])), .ro (.rows 1 (st.map fun w => [.ro (.ints .i64 w)])), .ro (.rows 1 (tn.map fun w => [.ro (.rows 5 (w.map Fl.row))])), .ro (.ints .i64 ln)]], true, 29⟩), (1, some ⟨.rows 1 [[.bool (decide (s = 2))]], true, 4⟩)], 2⟩ ⟨by simp [getT, PV.lo, lo1], by simp [getH, Blk.lo, Cells.lo, lo1, hs], rfl, by omega⟩ ⟨(0), by omega, by simp, rfl, rfl⟩ ?_
      rintro m_ s_ ⟨k, hL13_0, hL13_1, rfl, rfl⟩ KL13 hL13
      have hkw : IntKind.i64.wrap ((k : Int) + 1) = (((k + 1 : Nat)) : Int) := wnext (by omega)
      refine swp_seq fun K14 hK14 => ?_
      refine swp_region ty_ok ?_
      try simp (maxSteps := 1000000)
      repeat' (first | apply And.intro | intro _)
      any_goals (first | (refine hK14 _ ?_; clear hK14) | (first | omega | (simp only [IntKind.wrap_i64] at *; omega) | (simp_all; done) | (simp_all; omega)))
      refine swp_seq fun K15 hK15 => ?_
      refine swp_if fun C16 hC16 => ?_
      try simp (maxSteps := 1000000)
      refine hC16 _ (fun hc16 => ?_) (fun hc16 => ?_)
      · clear hC16
        try simp at hc16
        refine swp_skip ?_
        simp only [thn, inBlk]
        refine hK15 _ ?_; clear hK15
        refine swp_seq fun K17 hK17 => ?_
        refine swp_block ?_
        refine swp_seq fun K18 hK18 => ?_
        have hrow := w_at (l := tn) (k := k) (by omega)
        obtain ⟨hw1, hw2⟩ := hw _ (mem_at (w := tn) (j := k) (by omega))
        refine swp_region ty_ok ?_
        try simp (maxSteps := 1000000) [hrow]
        repeat' (first | apply And.intro | intro _)
        any_goals (first | (refine hK18 _ ?_; clear hK18) | (first | omega | (simp only [IntKind.wrap_i64] at *; omega) | (simp_all; done) | (simp_all; omega)))
        refine swp_seq fun K19 hK19 => ?_
        refine swp_region ty_ok ?_
        refine runs_cut 7 fun R20 hR20 => ?_
        try simp (maxSteps := 1000000) [List.take_succ_cons, List.take_zero, List.drop_succ_cons, List.drop_zero]
        repeat' (first | apply And.intro | intro _)
        any_goals (first | (refine hR20 _ ?_; clear hR20) | (first | omega | (simp only [IntKind.wrap_i64] at *; omega) | (simp_all; done) | (simp_all; omega)))
        refine runs_cut 1 fun R21 hR21 => ?_
        try simp (maxSteps := 1000000) [List.take_succ_cons, List.take_zero, List.drop_succ_cons, List.drop_zero]
        first | refine .inl ⟨_, fun hb => .inl ⟨lcon_ok s (tn[k]?.getD []) (by have : (tn[k]?.getD []).length ≤ 1000 := hw1; omega) (fun f hf => by have := hw2 f hf; omega), rfl⟩, ?_⟩ | refine .inl ⟨_, .inl ⟨lcon_ok s (tn[k]?.getD []) (by have : (tn[k]?.getD []).length ≤ 1000 := hw1; omega) (fun f hf => by have := hw2 f hf; omega), rfl⟩, ?_⟩ | refine .inl ⟨_, fun hb => .inl (lcon_ok s (tn[k]?.getD []) (by have : (tn[k]?.getD []).length ≤ 1000 := hw1; omega) (fun f hf => by have := hw2 f hf; omega)), ?_⟩ | refine .inl ⟨_, .inl (lcon_ok s (tn[k]?.getD []) (by have : (tn[k]?.getD []).length ≤ 1000 := hw1; omega) (fun f hf => by have := hw2 f hf; omega)), ?_⟩ | refine .inl ⟨_, by (intros; exact Or.inl (lcon_ok s (tn[k]?.getD []) (by have : (tn[k]?.getD []).length ≤ 1000 := hw1; omega) (fun f hf => by have := hw2 f hf; omega))), ?_⟩ | refine .inl ⟨_, by (intros; exact Or.inl ⟨lcon_ok s (tn[k]?.getD []) (by have : (tn[k]?.getD []).length ≤ 1000 := hw1; omega) (fun f hf => by have := hw2 f hf; omega), rfl⟩), ?_⟩ | refine .inl ⟨_, fun hb => .inl ⟨_, lcon_ok s (tn[k]?.getD []) (by have : (tn[k]?.getD []).length ≤ 1000 := hw1; omega) (fun f hf => by have := hw2 f hf; omega), by (try simp); exact ⟨rfl, rfl⟩⟩, ?_⟩
        repeat' (first | apply And.intro | intro _)
        any_goals (first | (refine hR21 _ ?_; clear hR21) | (first | omega | (simp only [IntKind.wrap_i64] at *; omega) | (simp_all; done) | (simp_all; omega)))
        try simp (maxSteps := 1000000) [List.take_succ_cons, List.take_zero, List.drop_succ_cons, List.drop_zero]
        repeat' (first | apply And.intro | intro _)
        any_goals (first | (refine hK19 _ ?_; clear hK19) | (first | omega | (simp only [IntKind.wrap_i64] at *; omega) | (simp_all; done) | (simp_all; omega)))
        refine swp_if fun C22 hC22 => ?_
        try simp (maxSteps := 1000000)
        refine hC22 _ (fun hc22 => ?_) (fun hc22 => ?_)
        · clear hC22
          try simp at hc22
          refine swp_seq fun K23 hK23 => ?_
          refine swp_region ty_ok ?_
          try simp (maxSteps := 1000000)
          repeat' (first | apply And.intro | intro _)
          any_goals (first | (refine hK23 _ ?_; clear hK23) | (first | omega | (simp only [IntKind.wrap_i64] at *; omega) | (simp_all; done) | (simp_all; omega)))
          refine swp_ret ?_
          simp [fnPost, Try.results76, resP, tupOf]
          exact filA_bad (k := k) (by omega) (by simpa [badW, ho] using hc22)
        · clear hC22
          try simp at hc22
          refine swp_skip ?_
          simp only [thn, inBlk]
          refine hK17 _ ?_; clear hK17
          refine swp_region ty_ok ?_
          try simp (maxSteps := 1000000)
          repeat' apply And.intro
          any_goals (try omega)
          refine hL13 _ ⟨[(2, .ptr 0 0 0 1), (5, .ptr 1 0 0 1), (6, .int .i64 1), (20, .ro (.rows 1 (tn.map fun w => [.ro (.rows 5 (w.map Fl.row))]))), (21, .int .i64 (tn.length : Nat)), (22, .int .i64 ((k + 1) : Nat))], [(0, some ⟨.rows 9 [[.int .i64 ga, .int .u8 s, .int .u8 sh, .int .i64 m, .ro (.ints .i64 g), .ro (.rows 1 (se.map fun w => [.ro (.rows 2 (w.map Sc.row))])), .ro (.rows 1 (st.map fun w => [.ro (.ints .i64 w)])), .ro (.rows 1 (tn.map fun w => [.ro (.rows 5 (w.map Fl.row))])), .ro (.ints .i64 ln)]], true, 29⟩), (1, some ⟨.rows 1 [[.bool (decide (s = 2))]], true, 4⟩)], 2⟩ _ ?_ ⟨(k + 1), by omega, by (refine lt_step (by assumption) ?_; simpa [badW, ho] using hc22), rfl, rfl⟩ ⟨by simp [getT, PV.lo, lo1, hkw], by simp [getH, Blk.lo, Cells.lo, lo1, hs], rfl, by omega⟩
          omega
      · clear hC16
        try simp at hc16
        refine swp_exit ?_
        simp [thn, inBlk]
        refine hK11 _ ?_; clear hK11
        refine swp_seq fun K24 hK24 => ?_
        refine swp_region ty_ok ?_
        try simp (maxSteps := 1000000)
        repeat' (first | apply And.intro | intro _)
        any_goals (first | (refine hK24 _ ?_; clear hK24) | (first | omega | (simp only [IntKind.wrap_i64] at *; omega) | (simp_all; done) | (simp_all; omega)))
        refine swp_ret ?_
        simp [fnPost, Try.results76, resP, tupOf]
        exact filA_ok (k := k) (by omega) (by omega) (by assumption)
  · clear hC6
    try simp at hc6
    refine swp_skip ?_
    simp only [thn, inBlk]
    refine hK4 _ ?_; clear hK4
    refine swp_seq fun K25 hK25 => ?_
    refine swp_seq fun K26 hK26 => ?_
    try have hs : ¬ s = 2 := by assumption
    try have ho : sz3 s = 3 := if_neg hs
    refine swp_region ty_ok ?_
    try simp (maxSteps := 1000000)
    repeat' (first | apply And.intro | intro _)
    any_goals (first | (refine hK26 _ ?_; clear hK26) | (first | omega | (simp only [IntKind.wrap_i64] at *; omega) | (simp_all; done) | (simp_all; omega)))
    refine swp_if fun C27 hC27 => ?_
    try simp (maxSteps := 1000000)
    refine hC27 _ (fun hc27 => ?_) (fun hc27 => ?_)
    · clear hC27
      try simp at hc27
      refine swp_seq fun K28 hK28 => ?_
      refine swp_region ty_ok ?_
      try simp (maxSteps := 1000000)
      repeat' (first | apply And.intro | intro _)
      any_goals (first | (refine hK28 _ ?_; clear hK28) | (first | omega | (simp only [IntKind.wrap_i64] at *; omega) | (simp_all; done) | (simp_all; omega)))
      refine swp_ret ?_
      simp [fnPost, Try.results76, resP, tupOf]
      rw [filA, decide_eq_false (by omega)]; rfl
    · clear hC27
      try simp at hc27
      refine swp_skip ?_
      simp only [thn, inBlk]
      refine hK25 _ ?_; clear hK25
      refine swp_seq fun K29 hK29 => ?_
      refine swp_seq fun K30 hK30 => ?_
      refine swp_region ty_ok ?_
      try simp (maxSteps := 1000000)
      repeat' (first | apply And.intro | intro _)
      any_goals (first | (refine hK30 _ ?_; clear hK30) | (first | omega | (simp only [IntKind.wrap_i64] at *; omega) | (simp_all; done) | (simp_all; omega)))
      refine swp_block ?_
      refine swp_loop 2 (fun m_ s_ => ∃ (k : Nat), (k ≤ tn.length) ∧ (∀ j < k, badW s (tn[j]?.getD []) = false) ∧ s_ = ⟨[(2, .ptr 0 0 0 1), (5, .ptr 1 0 0 1), (6, .int .i64 3), (20, .ro (.rows 1 (tn.map fun w => [.ro (.rows 5 (w.map Fl.row))]))), (21, .int .i64 (tn.length : Nat)), (22, .int .i64 (k : Nat))], [(0, some ⟨.rows 9 [[.int .i64 ga, .int .u8 s, .int .u8 sh, .int .i64 m, .ro (.ints .i64 g), .ro (.rows 1 (se.map fun w => [.ro (.rows 2 (w.map Sc.row))])), .ro (.rows 1 (st.map fun w => [.ro (.ints .i64 w)])), .ro (.rows 1 (tn.map fun w => [.ro (.rows 5 (w.map Fl.row))])), .ro (.ints .i64 ln)]], true, 29⟩), (1, some ⟨.rows 1 [[.bool (decide (s = 2))]], true, 4⟩)], 2⟩ ∧ m_ = tn.length - k) _ ⟨[(2, .ptr 0 0 0 1), (5, .ptr 1 0 0 1), (6, .int .i64 3), (20, .ro (.rows 1 (tn.map fun w => [.ro (.rows 5 (w.map Fl.row))]))), (21, .int .i64 (tn.length : Nat)), (22, .int .i64 (0 : Nat))], [(0, some ⟨.rows 9 [[.int .i64 ga, .int .u8 s, .int .u8 sh, .int .i64 m, .ro (.ints .i64 g), .ro (.rows 1 (se.map fun w => [.ro (.rows 2 (w.map Sc.row))])), .ro (.rows 1 (st.map fun w => [.ro (.ints .i64 w)])), .ro (.rows 1 (tn.map fun w => [.ro (.rows 5 (w.map Fl.row))])), .ro (.ints .i64 ln)]], true, 29⟩), (1, some ⟨.rows 1 [[.bool (decide (s = 2))]], true, 4⟩)], 2⟩ ⟨by simp [getT, PV.lo, lo1], by simp [getH, Blk.lo, Cells.lo, lo1, hs], rfl, by omega⟩ ⟨(0), by omega, by simp, rfl, rfl⟩ ?_
      rintro m_ s_ ⟨k, hL31_0, hL31_1, rfl, rfl⟩ KL31 hL31
      have hkw : IntKind.i64.wrap ((k : Int) + 1) = (((k + 1 : Nat)) : Int) := wnext (by omega)
      refine swp_seq fun K32 hK32 => ?_
      refine swp_region ty_ok ?_
      try simp (maxSteps := 1000000)
      repeat' (first | apply And.intro | intro _)
      any_goals (first | (refine hK32 _ ?_; clear hK32) | (first | omega | (simp only [IntKind.wrap_i64] at *; omega) | (simp_all; done) | (simp_all; omega)))
      refine swp_seq fun K33 hK33 => ?_
      refine swp_if fun C34 hC34 => ?_
      try simp (maxSteps := 1000000)
      refine hC34 _ (fun hc34 => ?_) (fun hc34 => ?_)
      · clear hC34
        try simp at hc34
        refine swp_skip ?_
        simp only [thn, inBlk]
        refine hK33 _ ?_; clear hK33
        refine swp_seq fun K35 hK35 => ?_
        refine swp_block ?_
        refine swp_seq fun K36 hK36 => ?_
        have hrow := w_at (l := tn) (k := k) (by omega)
        obtain ⟨hw1, hw2⟩ := hw _ (mem_at (w := tn) (j := k) (by omega))
        refine swp_region ty_ok ?_
        try simp (maxSteps := 1000000) [hrow]
        repeat' (first | apply And.intro | intro _)
        any_goals (first | (refine hK36 _ ?_; clear hK36) | (first | omega | (simp only [IntKind.wrap_i64] at *; omega) | (simp_all; done) | (simp_all; omega)))
        refine swp_seq fun K37 hK37 => ?_
        refine swp_region ty_ok ?_
        refine runs_cut 7 fun R38 hR38 => ?_
        try simp (maxSteps := 1000000) [List.take_succ_cons, List.take_zero, List.drop_succ_cons, List.drop_zero]
        repeat' (first | apply And.intro | intro _)
        any_goals (first | (refine hR38 _ ?_; clear hR38) | (first | omega | (simp only [IntKind.wrap_i64] at *; omega) | (simp_all; done) | (simp_all; omega)))
        refine runs_cut 1 fun R39 hR39 => ?_
        try simp (maxSteps := 1000000) [List.take_succ_cons, List.take_zero, List.drop_succ_cons, List.drop_zero]
        first | refine .inl ⟨_, fun hb => .inl ⟨lcon_ok s (tn[k]?.getD []) (by have : (tn[k]?.getD []).length ≤ 1000 := hw1; omega) (fun f hf => by have := hw2 f hf; omega), rfl⟩, ?_⟩ | refine .inl ⟨_, .inl ⟨lcon_ok s (tn[k]?.getD []) (by have : (tn[k]?.getD []).length ≤ 1000 := hw1; omega) (fun f hf => by have := hw2 f hf; omega), rfl⟩, ?_⟩ | refine .inl ⟨_, fun hb => .inl (lcon_ok s (tn[k]?.getD []) (by have : (tn[k]?.getD []).length ≤ 1000 := hw1; omega) (fun f hf => by have := hw2 f hf; omega)), ?_⟩ | refine .inl ⟨_, .inl (lcon_ok s (tn[k]?.getD []) (by have : (tn[k]?.getD []).length ≤ 1000 := hw1; omega) (fun f hf => by have := hw2 f hf; omega)), ?_⟩ | refine .inl ⟨_, by (intros; exact Or.inl (lcon_ok s (tn[k]?.getD []) (by have : (tn[k]?.getD []).length ≤ 1000 := hw1; omega) (fun f hf => by have := hw2 f hf; omega))), ?_⟩ | refine .inl ⟨_, by (intros; exact Or.inl ⟨lcon_ok s (tn[k]?.getD []) (by have : (tn[k]?.getD []).length ≤ 1000 := hw1; omega) (fun f hf => by have := hw2 f hf; omega), rfl⟩), ?_⟩ | refine .inl ⟨_, fun hb => .inl ⟨_, lcon_ok s (tn[k]?.getD []) (by have : (tn[k]?.getD []).length ≤ 1000 := hw1; omega) (fun f hf => by have := hw2 f hf; omega), by (try simp); exact ⟨rfl, rfl⟩⟩, ?_⟩
        repeat' (first | apply And.intro | intro _)
        any_goals (first | (refine hR39 _ ?_; clear hR39) | (first | omega | (simp only [IntKind.wrap_i64] at *; omega) | (simp_all; done) | (simp_all; omega)))
        try simp (maxSteps := 1000000) [List.take_succ_cons, List.take_zero, List.drop_succ_cons, List.drop_zero]
        repeat' (first | apply And.intro | intro _)
        any_goals (first | (refine hK37 _ ?_; clear hK37) | (first | omega | (simp only [IntKind.wrap_i64] at *; omega) | (simp_all; done) | (simp_all; omega)))
        refine swp_if fun C40 hC40 => ?_
        try simp (maxSteps := 1000000)
        refine hC40 _ (fun hc40 => ?_) (fun hc40 => ?_)
        · clear hC40
          try simp at hc40
          refine swp_seq fun K41 hK41 => ?_
          refine swp_region ty_ok ?_
          try simp (maxSteps := 1000000)
          repeat' (first | apply And.intro | intro _)
          any_goals (first | (refine hK41 _ ?_; clear hK41) | (first | omega | (simp only [IntKind.wrap_i64] at *; omega) | (simp_all; done) | (simp_all; omega)))
          refine swp_ret ?_
          simp [fnPost, Try.results76, resP, tupOf]
          exact filA_bad (k := k) (by omega) (by simpa [badW, ho] using hc40)
        · clear hC40
          try simp at hc40
          refine swp_skip ?_
          simp only [thn, inBlk]
          refine hK35 _ ?_; clear hK35
          refine swp_region ty_ok ?_
          try simp (maxSteps := 1000000)
          repeat' apply And.intro
          any_goals (try omega)
          refine hL31 _ ⟨[(2, .ptr 0 0 0 1), (5, .ptr 1 0 0 1), (6, .int .i64 3), (20, .ro (.rows 1 (tn.map fun w => [.ro (.rows 5 (w.map Fl.row))]))), (21, .int .i64 (tn.length : Nat)), (22, .int .i64 ((k + 1) : Nat))], [(0, some ⟨.rows 9 [[.int .i64 ga, .int .u8 s, .int .u8 sh, .int .i64 m, .ro (.ints .i64 g), .ro (.rows 1 (se.map fun w => [.ro (.rows 2 (w.map Sc.row))])), .ro (.rows 1 (st.map fun w => [.ro (.ints .i64 w)])), .ro (.rows 1 (tn.map fun w => [.ro (.rows 5 (w.map Fl.row))])), .ro (.ints .i64 ln)]], true, 29⟩), (1, some ⟨.rows 1 [[.bool (decide (s = 2))]], true, 4⟩)], 2⟩ _ ?_ ⟨(k + 1), by omega, by (refine lt_step (by assumption) ?_; simpa [badW, ho] using hc40), rfl, rfl⟩ ⟨by simp [getT, PV.lo, lo1, hkw], by simp [getH, Blk.lo, Cells.lo, lo1, hs], rfl, by omega⟩
          omega
      · clear hC34
        try simp at hc34
        refine swp_exit ?_
        simp [thn, inBlk]
        refine hK29 _ ?_; clear hK29
        refine swp_seq fun K42 hK42 => ?_
        refine swp_region ty_ok ?_
        try simp (maxSteps := 1000000)
        repeat' (first | apply And.intro | intro _)
        any_goals (first | (refine hK42 _ ?_; clear hK42) | (first | omega | (simp only [IntKind.wrap_i64] at *; omega) | (simp_all; done) | (simp_all; omega)))
        refine swp_ret ?_
        simp [fnPost, Try.results76, resP, tupOf]
        exact filA_ok (k := k) (by omega) (by omega) (by assumption)

theorem huff_dim_ok (book : Int) : PCall Try.prog 118 [.int .i64 book] (.int .i64 (dimH book)) := by
  refine pcall_body ty_ok Try.func118 rfl (by rfl) (by simp) ?_
  rw [Try.ntmps118]
  refine swp_seq fun K1 hK1 => ?_
  refine swp_region ty_ok ?_
  try simp (maxSteps := 1000000)
  repeat' (first | apply And.intro | intro _)
  any_goals (first | (refine hK1 _ ?_; clear hK1) | (first | omega | (simp only [IntKind.wrap_i64] at *; omega) | (simp_all; done) | (simp_all; omega)))
  refine swp_seq fun K2 hK2 => ?_
  refine swp_seq fun K3 hK3 => ?_
  refine swp_region ty_ok ?_
  try simp (maxSteps := 1000000)
  repeat' (first | apply And.intro | intro _)
  any_goals (first | (refine hK3 _ ?_; clear hK3) | (first | omega | (simp only [IntKind.wrap_i64] at *; omega) | (simp_all; done) | (simp_all; omega)))
  refine swp_if fun C4 hC4 => ?_
  try simp (maxSteps := 1000000)
  refine hC4 _ (fun hc4 => ?_) (fun hc4 => ?_)
  · clear hC4
    try simp at hc4
    refine swp_seq fun K5 hK5 => ?_
    refine swp_region ty_ok ?_
    try simp (maxSteps := 1000000)
    repeat' (first | apply And.intro | intro _)
    any_goals (first | (refine hK5 _ ?_; clear hK5) | (first | omega | (simp only [IntKind.wrap_i64] at *; omega) | (simp_all; done) | (simp_all; omega)))
    refine swp_ret ?_
    simp [fnPost, Try.results118, resP, tupOf]
    simp_all [dimH]
  · clear hC4
    try simp at hc4
    refine swp_skip ?_
    simp only [thn, inBlk]
    refine hK2 _ ?_; clear hK2
    refine swp_seq fun K6 hK6 => ?_
    refine swp_region ty_ok ?_
    try simp (maxSteps := 1000000)
    repeat' (first | apply And.intro | intro _)
    any_goals (first | (refine hK6 _ ?_; clear hK6) | (first | omega | (simp only [IntKind.wrap_i64] at *; omega) | (simp_all; done) | (simp_all; omega)))
    refine swp_ret ?_
    simp [fnPost, Try.results118, resP, tupOf]
    simp_all [dimH]

theorem huff_greatest_ok  : PCall Try.prog 119 [] (.agg [.int .i64 0, .int .i64 1, .int .i64 1, .int .i64 2, .int .i64 2, .int .i64 4, .int .i64 4, .int .i64 7, .int .i64 7, .int .i64 12, .int .i64 12, .int .i64 8191, .int .i64 0]) := by
  refine pcall_body ty_ok Try.func119 rfl (by rfl) (by simp) ?_
  rw [Try.ntmps119]
  refine swp_seq fun K1 hK1 => ?_
  refine swp_region ty_ok ?_
  try simp (maxSteps := 1000000)
  repeat' (first | apply And.intro | intro _)
  any_goals (first | (refine hK1 _ ?_; clear hK1) | (first | omega | (simp only [IntKind.wrap_i64] at *; omega) | (simp_all; done) | (simp_all; omega)))
  refine swp_seq fun K2 hK2 => ?_
  refine swp_region ty_ok ?_
  try simp (maxSteps := 1000000)
  repeat' (first | apply And.intro | intro _)
  any_goals (first | (refine hK2 _ ?_; clear hK2) | (first | omega | (simp only [IntKind.wrap_i64] at *; omega) | (simp_all; done) | (simp_all; omega)))
  refine swp_ret ?_
  simp [fnPost, Try.results119, resP, tupOf]

theorem hfit1_ok (q n : Int) (hq : 0 ≤ q ∧ q ≤ 8191) : PCall Try.prog 120 [.int .i64 n, .rop (.rows 1 [[.int .i64 q]]) 0 0] (.bool (outG q n)) := by
  have hneg : IntKind.i64.wrap (-q) = -q := w64 (by omega)
  refine pcall_body ty_ok Try.func120 rfl (by rfl) (by simp) ?_
  rw [Try.ntmps120]
  refine swp_seq fun K1 hK1 => ?_
  refine swp_region ty_ok ?_
  try simp (maxSteps := 1000000) [hneg]
  repeat' (first | apply And.intro | intro _)
  any_goals (first | (refine hK1 _ ?_; clear hK1) | (first | omega | (simp only [IntKind.wrap_i64] at *; omega) | (simp_all; done) | (simp_all; omega)))
  refine swp_seq fun K2 hK2 => ?_
  refine swp_region ty_ok ?_
  try simp (maxSteps := 1000000) [hneg]
  repeat' (first | apply And.intro | intro _)
  any_goals (first | (refine hK2 _ ?_; clear hK2) | (first | omega | (simp only [IntKind.wrap_i64] at *; omega) | (simp_all; done) | (simp_all; omega)))
  refine swp_ret ?_
  simp [fnPost, Try.results120, resP, tupOf]
  simp [outG]

theorem huff_Fits_ok (book : Int) (xs : List Int) (hb : 1 ≤ book ∧ book ≤ 11) (hd : (xs.length : Int) = dimH book) : PCall Try.prog 109 [.int .i64 book, .ro (.ints .i64 xs)] (.tup [.bool (!xs.any (outG (gr book))), .int .i64 0]) := by
  obtain ⟨hg1, hg2⟩ := gr_at (book := book) (by omega)
  have hdb : dimH book ≤ 4 := by unfold dimH; split <;> omega
  refine pcall_body ty_ok Try.func109 rfl (by rfl) (by simp) ?_
  rw [Try.ntmps109]
  refine swp_seq fun K1 hK1 => ?_
  refine swp_region ty_ok ?_
  try simp (maxSteps := 1000000)
  repeat' (first | apply And.intro | intro _)
  any_goals (first | (refine hK1 _ ?_; clear hK1) | (first | omega | (simp only [IntKind.wrap_i64] at *; omega) | (simp_all; done) | (simp_all; omega)))
  refine swp_seq fun K2 hK2 => ?_
  refine swp_block ?_
  refine swp_seq fun K3 hK3 => ?_
  refine swp_region ty_ok ?_
  try simp (maxSteps := 1000000)
  repeat' (first | apply And.intro | intro _)
  any_goals (first | (refine hK3 _ ?_; clear hK3) | (first | omega | (simp only [IntKind.wrap_i64] at *; omega) | (simp_all; done) | (simp_all; omega)))
  refine swp_if fun C4 hC4 => ?_
  try simp (maxSteps := 1000000)
  refine hC4 _ (fun hc4 => ?_) (fun hc4 => ?_)
  · exact absurd (by simpa using hc4) (by omega : ¬ (book < 1 ∨ 11 < book))
  · clear hC4
    try simp at hc4
    refine swp_seq fun K5 hK5 => ?_
    refine swp_region ty_ok ?_
    refine runs_cut 3 fun R6 hR6 => ?_
    try simp (maxSteps := 1000000) [List.take_succ_cons, List.take_zero, List.drop_succ_cons, List.drop_zero]
    repeat' (first | apply And.intro | intro _)
    any_goals (first | (refine hR6 _ ?_; clear hR6) | (first | omega | (simp only [IntKind.wrap_i64] at *; omega) | (simp_all; done) | (simp_all; omega)))
    refine runs_cut 1 fun R7 hR7 => ?_
    try simp (maxSteps := 1000000) [List.take_succ_cons, List.take_zero, List.drop_succ_cons, List.drop_zero]
    refine .inl ⟨_, huff_dim_ok book, ?_⟩
    try simp (maxSteps := 1000000)
    repeat' (first | apply And.intro | intro _)
    any_goals (first | (refine hR7 _ ?_; clear hR7) | (first | omega | (simp only [IntKind.wrap_i64] at *; omega) | (simp_all; done) | (simp_all; omega)))
    try simp (maxSteps := 1000000) [List.take_succ_cons, List.take_zero, List.drop_succ_cons, List.drop_zero]
    repeat' (first | apply And.intro | intro _)
    any_goals (first | (refine hK5 _ ?_; clear hK5) | (first | omega | (simp only [IntKind.wrap_i64] at *; omega) | (simp_all; done) | (simp_all; omega)))
    refine swp_if fun C8 hC8 => ?_
    try simp (maxSteps := 1000000)
    refine hC8 _ (fun hc8 => ?_) (fun hc8 => ?_)
    · exact absurd hd (by simpa using hc8)
    · clear hC8
      try simp at hc8
      refine swp_skip ?_
      simp only [thn, inBlk]
      refine hK2 _ ?_; clear hK2
      refine swp_seq fun K9 hK9 => ?_
      refine swp_region ty_ok ?_
      refine runs_cut 1 fun R10 hR10 => ?_
      try simp (maxSteps := 1000000) [hg1, List.take_succ_cons, List.take_zero, List.drop_succ_cons, List.drop_zero]
      refine .inl ⟨_, huff_greatest_ok, ?_⟩
      try simp (maxSteps := 1000000) [hg1]
      repeat' (first | apply And.intro | intro _)
      any_goals (first | (refine hR10 _ ?_; clear hR10) | (first | omega | (simp only [IntKind.wrap_i64] at *; omega) | (simp_all; done) | (simp_all; omega)))
      try simp (maxSteps := 1000000) [hg1, List.take_succ_cons, List.take_zero, List.drop_succ_cons, List.drop_zero]
      repeat' (first | apply And.intro | intro _)
      any_goals (first | (refine hK9 _ ?_; clear hK9) | (first | omega | (simp only [IntKind.wrap_i64] at *; omega) | (simp_all; done) | (simp_all; omega)))
      refine swp_seq fun K11 hK11 => ?_
      refine swp_region ty_ok ?_
      refine runs_cut 2 fun R12 hR12 => ?_
      try simp (maxSteps := 1000000) [List.take_succ_cons, List.take_zero, List.drop_succ_cons, List.drop_zero]
      repeat' (first | apply And.intro | intro _)
      any_goals (first | (refine hR12 _ ?_; clear hR12) | (first | omega | (simp only [IntKind.wrap_i64] at *; omega) | (simp_all; done) | (simp_all; omega)))
      refine runs_cut 1 fun R13 hR13 => ?_
      try simp (maxSteps := 1000000) [List.take_succ_cons, List.take_zero, List.drop_succ_cons, List.drop_zero]
      refine .inl ⟨_, conI_ok xs _ _ (outG (gr book)) (fun n => hfit1_ok _ n hg2) (by omega), ?_⟩
      try simp (maxSteps := 1000000)
      repeat' (first | apply And.intro | intro _)
      any_goals (first | (refine hR13 _ ?_; clear hR13) | (first | omega | (simp only [IntKind.wrap_i64] at *; omega) | (simp_all; done) | (simp_all; omega)))
      try simp (maxSteps := 1000000) [List.take_succ_cons, List.take_zero, List.drop_succ_cons, List.drop_zero]
      repeat' (first | apply And.intro | intro _)
      any_goals (first | (refine hK11 _ ?_; clear hK11) | (first | omega | (simp only [IntKind.wrap_i64] at *; omega) | (simp_all; done) | (simp_all; omega)))
      refine swp_ret ?_
      simp [fnPost, Try.results109, resP, tupOf]

theorem lane_fits_ok (book v : Int) (hb : 1 ≤ book ∧ book ≤ 11) : PCall Try.prog 100 [.int .i64 book, .int .i64 v] (.bool (fitsB book v)) := by
  refine pcall_body ty_ok Try.func100 rfl (by rfl) (by simp) ?_
  rw [Try.ntmps100]
  refine swp_seq fun K1 hK1 => ?_
  refine swp_region ty_ok ?_
  try simp (maxSteps := 1000000) [Cells.sub, optL, List.append_eq, List.nil_append]
  repeat' (first | apply And.intro | intro _)
  any_goals (first | (refine hK1 _ ?_; clear hK1) | (first | omega | (simp only [IntKind.wrap_i64] at *; omega) | (simp_all; done) | (simp_all; omega)))
  refine swp_seq fun K2 hK2 => ?_
  refine swp_region ty_ok ?_
  refine runs_cut 1 fun R3 hR3 => ?_
  try simp (maxSteps := 1000000) [Cells.sub, optL, List.append_eq, List.nil_append, List.take_succ_cons, List.take_zero, List.drop_succ_cons, List.drop_zero]
  repeat' (first | apply And.intro | intro _)
  any_goals (first | (refine hR3 _ ?_; clear hR3) | (first | omega | (simp only [IntKind.wrap_i64] at *; omega) | (simp_all; done) | (simp_all; omega)))
  refine runs_cut 1 fun R4 hR4 => ?_
  try simp (maxSteps := 1000000) [Cells.sub, optL, List.append_eq, List.nil_append, List.take_succ_cons, List.take_zero, List.drop_succ_cons, List.drop_zero]
  repeat' (first | apply And.intro | intro _)
  any_goals (first | (refine Or.inl (hR4 _ ?_); clear hR4) | (first | omega | (simp only [IntKind.wrap_i64] at *; omega) | (simp_all; done) | (simp_all; omega)))
  try simp (maxSteps := 1000000) [Cells.sub, optL, List.append_eq, List.nil_append, List.take_succ_cons, List.take_zero, List.drop_succ_cons, List.drop_zero]
  repeat' (first | apply And.intro | intro _)
  any_goals (first | (refine hK2 _ ?_; clear hK2) | (first | omega | (simp only [IntKind.wrap_i64] at *; omega) | (simp_all; done) | (simp_all; omega)))
  refine swp_seq fun K5 hK5 => ?_
  refine swp_seq fun K6 hK6 => ?_
  refine swp_region ty_ok ?_
  try simp (maxSteps := 1000000) [Cells.sub, optL, List.append_eq, List.nil_append]
  repeat' (first | apply And.intro | intro _)
  any_goals (first | (refine hK6 _ ?_; clear hK6) | (first | omega | (simp only [IntKind.wrap_i64] at *; omega) | (simp_all; done) | (simp_all; omega)))
  refine swp_if fun C7 hC7 => ?_
  try simp (maxSteps := 1000000) [Cells.sub, optL, List.append_eq, List.nil_append]
  refine hC7 _ (fun hc7 => ?_) (fun hc7 => ?_)
  · clear hC7
    try simp at hc7
    refine swp_region ty_ok ?_
    try simp (maxSteps := 1000000) [Cells.sub, optL, List.append_eq, List.nil_append]
    repeat' (first | apply And.intro | intro _)
    any_goals (first | (refine hK5 _ ?_; clear hK5) | (first | omega | (simp only [IntKind.wrap_i64] at *; omega) | (simp_all; done) | (simp_all; omega)))
    refine swp_seq fun K8 hK8 => ?_
    refine swp_region ty_ok ?_
    refine runs_cut 2 fun R9 hR9 => ?_
    try simp (maxSteps := 1000000) [Cells.sub, optL, List.append_eq, List.nil_append, List.take_succ_cons, List.take_zero, List.drop_succ_cons, List.drop_zero]
    repeat' (first | apply And.intro | intro _)
    any_goals (first | (refine hR9 _ ?_; clear hR9) | (first | omega | (simp only [IntKind.wrap_i64] at *; omega) | (simp_all; done) | (simp_all; omega)))
    refine runs_cut 1 fun R10 hR10 => ?_
    try simp (maxSteps := 1000000) [Cells.sub, optL, List.append_eq, List.nil_append, List.take_succ_cons, List.take_zero, List.drop_succ_cons, List.drop_zero]
    first | refine .inl ⟨_, huff_Fits_ok book [v, 0] hb (by unfold dimH; rw [if_neg (by omega)]; rfl), ?_⟩ | refine .inl ⟨_, huff_Fits_ok book [v, 0, 0, 0] hb (by unfold dimH; rw [if_pos (by omega)]; rfl), ?_⟩
    try simp (maxSteps := 1000000) [Cells.sub, optL, List.append_eq, List.nil_append]
    repeat' (first | apply And.intro | intro _)
    any_goals (first | (refine hR10 _ ?_; clear hR10) | (first | omega | (simp only [IntKind.wrap_i64] at *; omega) | (simp_all; done) | (simp_all; omega)))
    try simp (maxSteps := 1000000) [Cells.sub, optL, List.append_eq, List.nil_append, List.take_succ_cons, List.take_zero, List.drop_succ_cons, List.drop_zero]
    repeat' (first | apply And.intro | intro _)
    any_goals (first | (refine hK8 _ ?_; clear hK8) | (first | omega | (simp only [IntKind.wrap_i64] at *; omega) | (simp_all; done) | (simp_all; omega)))
    refine swp_seq fun K11 hK11 => ?_
    refine swp_region ty_ok ?_
    try simp (maxSteps := 1000000) [Cells.sub, optL, List.append_eq, List.nil_append]
    repeat' (first | apply And.intro | intro _)
    any_goals (first | (refine hK11 _ ?_; clear hK11) | (first | omega | (simp only [IntKind.wrap_i64] at *; omega) | (simp_all; done) | (simp_all; omega)))
    refine swp_ret ?_
    simp [fnPost, Try.results100, resP, tupOf]
    have hg2 := (gr_at (book := book) (by omega)).2.1
    have h1 := fits_one (v := v) hg2 [0, 0, 0] (by simp)
    have h2 := fits_one (v := v) hg2 [0] (by simp)
    simp_all
  · clear hC7
    try simp at hc7
    refine swp_skip ?_
    simp only [thn, inBlk]
    refine hK5 _ ?_; clear hK5
    refine swp_seq fun K12 hK12 => ?_
    refine swp_region ty_ok ?_
    refine runs_cut 2 fun R13 hR13 => ?_
    try simp (maxSteps := 1000000) [Cells.sub, optL, List.append_eq, List.nil_append, List.take_succ_cons, List.take_zero, List.drop_succ_cons, List.drop_zero]
    repeat' (first | apply And.intro | intro _)
    any_goals (first | (refine hR13 _ ?_; clear hR13) | (first | omega | (simp only [IntKind.wrap_i64] at *; omega) | (simp_all; done) | (simp_all; omega)))
    refine runs_cut 1 fun R14 hR14 => ?_
    try simp (maxSteps := 1000000) [Cells.sub, optL, List.append_eq, List.nil_append, List.take_succ_cons, List.take_zero, List.drop_succ_cons, List.drop_zero]
    first | refine .inl ⟨_, huff_Fits_ok book [v, 0] hb (by unfold dimH; rw [if_neg (by omega)]; rfl), ?_⟩ | refine .inl ⟨_, huff_Fits_ok book [v, 0, 0, 0] hb (by unfold dimH; rw [if_pos (by omega)]; rfl), ?_⟩
    try simp (maxSteps := 1000000) [Cells.sub, optL, List.append_eq, List.nil_append]
    repeat' (first | apply And.intro | intro _)
    any_goals (first | (refine hR14 _ ?_; clear hR14) | (first | omega | (simp only [IntKind.wrap_i64] at *; omega) | (simp_all; done) | (simp_all; omega)))
    try simp (maxSteps := 1000000) [Cells.sub, optL, List.append_eq, List.nil_append, List.take_succ_cons, List.take_zero, List.drop_succ_cons, List.drop_zero]
    repeat' (first | apply And.intro | intro _)
    any_goals (first | (refine hK12 _ ?_; clear hK12) | (first | omega | (simp only [IntKind.wrap_i64] at *; omega) | (simp_all; done) | (simp_all; omega)))
    refine swp_seq fun K15 hK15 => ?_
    refine swp_region ty_ok ?_
    try simp (maxSteps := 1000000) [Cells.sub, optL, List.append_eq, List.nil_append]
    repeat' (first | apply And.intro | intro _)
    any_goals (first | (refine hK15 _ ?_; clear hK15) | (first | omega | (simp only [IntKind.wrap_i64] at *; omega) | (simp_all; done) | (simp_all; omega)))
    refine swp_ret ?_
    simp [fnPost, Try.results100, resP, tupOf]
    have hg2 := (gr_at (book := book) (by omega)).2.1
    have h1 := fits_one (v := v) hg2 [0, 0, 0] (by simp)
    have h2 := fits_one (v := v) hg2 [0] (by simp)
    simp_all

end Go.Proofs.Ytmkgfgdipkagbaa

