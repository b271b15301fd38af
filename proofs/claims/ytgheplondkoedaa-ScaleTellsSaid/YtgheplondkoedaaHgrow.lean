import Derived.Test.YtgheplondkoedaaWf
import Derived.Test.YtgheplondkoedaaTyh
import Derived.Test.YtgheplondkoedaaHbits
import Derived.Test.YtgheplondkoedaaHbits2
import Derived.Test.YtgheplondkoedaaGrow
namespace Go.Proofs.Ytgheplondkoedaa
set_option linter.unusedVariables false
set_option linter.unusedSimpArgs false
set_option maxRecDepth 10000
open Go Go.Pv

open Go.RowKit
theorem l_at {ls : List (List Int)} {k : Nat} (h : k < ls.length) : (Option.map (fun l : List Int => [PV.ro (.ints .u8 l)]) ls[k]?).getD [] = [PV.ro (.ints .u8 (ls[k]?.getD []))] := by
 rw [List.getElem?_eq_getElem h]; rfl
def cat (ls : List (List Int)) : List Int := ls.flatten
def catN (ls : List (List Int)) (k : Nat) : List Int := cat (ls.take k)
theorem catN_zero (ls : List (List Int)) : catN ls 0 = [] := by simp [catN, cat]
theorem catN_all (ls : List (List Int)) : catN ls ls.length = cat ls := by simp [catN]
theorem flat_take {ls : List (List Int)} {k : Nat} (h : k < ls.length) : catN ls (k + 1) = catN ls k ++ ls[k]?.getD [] := by
 unfold catN cat
 rw [List.take_succ_eq_append_getElem h, List.flatten_append, List.getElem?_eq_getElem h]
 simp
theorem flat_le (ls : List (List Int)) (k : Nat) : (catN ls k).length ≤ (cat ls).length := by
 have : ls.flatten = (ls.take k).flatten ++ (ls.drop k).flatten := by rw [← List.flatten_append, List.take_append_drop]
 unfold catN cat
 rw [this, List.length_append]
 omega

theorem grow_h (n k : Nat) (hn : 1 ≤ n ∧ n ≤ 17592186044000) : HCall Try.prog 83 [.nil (.ints .u8 []), .int .i64 n] [] k (.sl k 0 0 0) [(k, some ⟨.ints .u8 [], false, 5⟩)] := by
 refine ⟨⟨_, Try.func83, by simp [Try.f83], rfl⟩, fun c B vs hok hH hfree ha => ?_⟩
 obtain ⟨v1, v2, rfl, h1, h2⟩ := args2 ha
 cases h1 with
 | nil _ _ a _ =>
  cases h2
  refine (grow_any a n hn c.w).mono ?_
  rintro e w' ⟨v, rfl, hg, ho⟩
  have ho' : w'.ownsRow c.w.heap.size 5 1 v 0 [] := ho
  have hnew : ∀ g, blkOf v = some g → c.w.heap.size ≤ g := fun g hgg => by
   rcases ho'.2 with ⟨rfl, _⟩ | ⟨g', cap, cur, rfl, hB, _⟩
   ·cases hgg
   ·cases hgg; exact hB
  obtain ⟨c', e1, e2, hp⟩ := post_new hok (id := k) (blk' := ⟨.ints .u8 [], false, 5⟩) (V' := v) (w' := w') (hfree k (Nat.le_refl _)) hg hnew (fun c' _ hw => by
   refine ⟨[], ?_, by simp [Cells.len], fun i j hi _ => by simp [Cells.len] at hi⟩
   refine ⟨rfl, ?_⟩
   rw [hw]
   rcases ho'.2 with ⟨h, h0⟩ | ⟨g', cap, cur, h, hB, hr⟩
   ·exact .inl ⟨h, rfl⟩
   ·exact .inr ⟨g', cap, cur, h, Nat.le_trans hok.base hB, hr⟩)
  refine ⟨v, c', rfl, e1, ?_, hp⟩
  have hHk : c'.H k = some ⟨.ints .u8 [], false, 5⟩ := by rw [hp.H]; exact put_same _ _ _
  refine .sl k 0 0 0 v ((hp.A k).2 (.inr (by simp))) ?_ fun blk hb => ?_
  ·rcases ho'.2 with ⟨rfl, _⟩ | ⟨g', cap, cur, rfl, _⟩
   ·exact ⟨_, _, rfl, Nat.le_refl _⟩
   ·exact ⟨_, _, rfl, Nat.zero_le _⟩
  ·rw [hHk] at hb
   cases hb
   refine ⟨rfl, Nat.zero_le _, fun _ => ⟨Nat.le_refl _, fun _ => .inl ?_, fun h => absurd ⟨rfl, rfl⟩ h⟩⟩
   rw [e2, put_same]

attribute [local simp] runs gd step1 need evu un opnds opv ev cst cst1 cstL getT getH putT onL nxt argT cellsOf PV.one thn inBlk jmp fldP ldP ldC live Cells.len Cells.get Cells.w sug ldv bin eqF eq1 ops2 sh2 binv Tk.agg stC apC rdS apS cpC cpS mvL zp argsP idx fillP toInts chunks mkC ixS ixA oidx slP sl0 slA optL List.append mxF bltn frzA frz frzL frz1 pur1 Cells.pur PV.scal scal1 runD rdO PV.ids id1 zids ety Eff.on cnd minb and1b ifmax ifmin mxv sugI strv w0 w1 w2 wm1
set_option maxHeartbeats 2000000 in
theorem concat_ok (ls : List (List Int)) (hl : 1 ≤ (cat ls).length ∧ (cat ls).length ≤ 17592186044000) (hn : ls.length ≤ 1000) : PCall Try.prog 46 [.ro (.rows 1 (ls.map fun l => [.ro (.ints .u8 l)]))] (.ro (.ints .u8 (cat ls))) := by
 have htl := catN_all ls
 have h0 := catN_zero ls
 refine pcall_body ty_ok Try.func46 rfl (by rfl) (by simp) ?_
 rw [Try.ntmps46]
 refine swp_seq fun K1 hK1 => ?_
 refine swp_region ty_ok ?_
 try simp (maxSteps := 1000000)
 repeat' (first | apply And.intro | intro _)
 any_goals (first | (refine hK1 _ ?_; clear hK1) | omega | (simp_all <;> omega))
 refine swp_seq fun K2 hK2 => ?_
 refine swp_region ty_ok ?_
 try simp (maxSteps := 1000000)
 repeat' (first | apply And.intro | intro _)
 any_goals (first | (refine hK2 _ ?_; clear hK2) | omega | (simp_all <;> omega))
 refine swp_seq fun K3 hK3 => ?_
 refine swp_seq fun K4 hK4 => ?_
 refine swp_region ty_ok ?_
 try simp (maxSteps := 1000000)
 repeat' (first | apply And.intro | intro _)
 any_goals (first | (refine hK4 _ ?_; clear hK4) | omega | (simp_all <;> omega))
 refine swp_block ?_
 refine swp_loop 0 (fun m_ s_ => ∃ (k : Nat), (k ≤ ls.length) ∧ s_ = ⟨[(0, .ro (.rows 1 (ls.map fun l => [.ro (.ints .u8 l)]))), (9, .ro (.rows 1 (ls.map fun l => [.ro (.ints .u8 l)]))), (10, .int .i64 ls.length), (11, .int .i64 (k : Nat)), (3, .int .i64 ((catN ls k).length : Nat))], [], 0⟩ ∧ m_ = ls.length - k) _ ⟨[(0, .ro (.rows 1 (ls.map fun l => [.ro (.ints .u8 l)]))), (9, .ro (.rows 1 (ls.map fun l => [.ro (.ints .u8 l)]))), (10, .int .i64 ls.length), (11, .int .i64 (0 : Nat)), (3, .int .i64 ((catN ls 0).length : Nat))], [], 0⟩ ⟨by simp [getT, PV.lo, lo1, h0], by simp [getH, Blk.lo, Cells.lo, lo1], rfl, by omega⟩ ⟨(0), by (first | omega | (simp_all <;> omega)), rfl, rfl⟩ ?_
 rintro m_ s_ ⟨k, hL5_0, rfl, rfl⟩ KL5 hL5
 have hkw := wnext (i := k) (by omega)
 refine swp_seq fun K6 hK6 => ?_
 refine swp_region ty_ok ?_
 try simp (maxSteps := 1000000)
 repeat' (first | apply And.intro | intro _)
 any_goals (first | (refine hK6 _ ?_; clear hK6) | omega | (simp_all <;> omega))
 refine swp_seq fun K7 hK7 => ?_
 refine swp_if fun C8 hC8 => ?_
 try simp (maxSteps := 1000000)
 refine hC8 _ (fun hc8 => ?_) (fun hc8 => ?_)
 ·clear hC8
  try simp at hc8
  refine swp_skip ?_
  try simp only [thn, inBlk]
  refine hK7 _ ?_; clear hK7
  refine swp_seq fun K9 hK9 => ?_
  refine swp_block ?_
  refine swp_seq fun K10 hK10 => ?_
  have hkl : k < ls.length := (by have h := hc8; omega)
  have hrow := l_at (ls := ls) (k := k) hkl
  refine swp_region ty_ok ?_
  try simp (maxSteps := 1000000) [hrow]
  repeat' (first | apply And.intro | intro _)
  any_goals (first | (refine hK10 _ ?_; clear hK10) | omega | (simp_all <;> omega))
  refine swp_seq fun K11 hK11 => ?_
  have hsum := flat_take (ls := ls) hkl
  have hfl := flat_le ls (k + 1)
  have hadd : IntKind.i64.wrap (((catN ls k).length : Nat) + (ls[k]?.getD []).length : Int) = (((catN ls (k + 1)).length : Nat) : Int) := by rw [hsum, List.length_append] at hfl; rw [hsum, List.length_append, w64 (by omega)]; push_cast; rfl
  refine swp_region ty_ok ?_
  try simp (maxSteps := 1000000) [hadd]
  repeat' (first | apply And.intro | intro _)
  any_goals (first | (refine hK11 _ ?_; clear hK11) | omega | (simp_all <;> omega))
  refine swp_seq fun K12 hK12 => ?_
  refine swp_region ty_ok ?_
  try simp (maxSteps := 1000000)
  repeat' (first | apply And.intro | intro _)
  any_goals (first | (refine hK12 _ ?_; clear hK12) | omega | (simp_all <;> omega))
  refine swp_if fun C13 hC13 => ?_
  try simp (maxSteps := 1000000)
  refine hC13 _ (fun hc13 => ?_) (fun hc13 => ?_)
  ·exfalso
   have h := hc13
   simp at h
   omega
  ·clear hC13
   try simp at hc13
   refine swp_skip ?_
   try simp only [thn, inBlk]
   refine hK9 _ ?_; clear hK9
   refine swp_region ty_ok ?_
   try simp (maxSteps := 1000000)
   repeat' apply And.intro
   any_goals (try omega)
   refine hL5 _ ⟨[(0, .ro (.rows 1 (ls.map fun l => [.ro (.ints .u8 l)]))), (9, .ro (.rows 1 (ls.map fun l => [.ro (.ints .u8 l)]))), (10, .int .i64 ls.length), (11, .int .i64 ((k + 1) : Nat)), (3, .int .i64 ((catN ls (k + 1)).length : Nat))], [], 0⟩ _ ?_ ⟨(k + 1), by (first | omega | (simp_all <;> omega)), rfl, rfl⟩ ⟨by simp [getT, PV.lo, lo1, hkw], by simp [getH, Blk.lo, Cells.lo, lo1], rfl, by omega⟩
   omega
 ·clear hC8
  try simp at hc8
  refine swp_exit ?_
  simp [thn, inBlk]
  refine hK3 _ ?_; clear hK3
  refine swp_seq fun K14 hK14 => ?_
  have hke : k = ls.length := (by omega)
  subst hke
  refine swp_region ty_ok ?_
  refine runs_cut 1 fun R15 hR15 => ?_
  try simp (maxSteps := 1000000) [htl, List.take_succ_cons, List.take_zero, List.drop_succ_cons, List.drop_zero]
  repeat' (first | apply And.intro | intro _)
  any_goals (first | (refine hR15 _ ?_; clear hR15) | omega | (simp_all <;> omega))
  refine runs_cut 1 fun R16 hR16 => ?_
  try simp (maxSteps := 1000000) [htl, List.take_succ_cons, List.take_zero, List.drop_succ_cons, List.drop_zero]
  refine .inr (hcl_mk (grow_h (cat ls).length 0 hl) (by simp [PV.ids, id1, getH, Blk.inL, Cells.inL, inL1]) (by simp [PV.inL, inL1]) (by simp) ?_)
  try simp (maxSteps := 1000000) [htl]
  repeat' (first | apply And.intro | intro _)
  any_goals (first | (refine hR16 _ ?_; clear hR16) | omega | (simp_all <;> omega))
  try simp (maxSteps := 1000000) [htl, List.take_succ_cons, List.take_zero, List.drop_succ_cons, List.drop_zero]
  repeat' (first | apply And.intro | intro _)
  any_goals (first | (refine hK14 _ ?_; clear hK14) | omega | (simp_all <;> omega))
  refine swp_seq fun K17 hK17 => ?_
  refine swp_seq fun K18 hK18 => ?_
  refine swp_region ty_ok ?_
  try simp (maxSteps := 1000000)
  repeat' (first | apply And.intro | intro _)
  any_goals (first | (refine hK18 _ ?_; clear hK18) | omega | (simp_all <;> omega))
  refine swp_block ?_
  refine swp_loop 1 (fun m_ s_ => ∃ (k : Nat), (k ≤ ls.length) ∧ s_ = ⟨[(6, .sl 0 0 (catN ls k).length (catN ls k).length), (25, .ro (.rows 1 (ls.map fun l => [.ro (.ints .u8 l)]))), (26, .int .i64 ls.length), (27, .int .i64 (k : Nat))], [(0, some ⟨.ints .u8 (catN ls k), false, 5⟩)], 1⟩ ∧ m_ = ls.length - k) _ ⟨[(6, .sl 0 0 (catN ls 0).length (catN ls 0).length), (25, .ro (.rows 1 (ls.map fun l => [.ro (.ints .u8 l)]))), (26, .int .i64 ls.length), (27, .int .i64 (0 : Nat))], [(0, some ⟨.ints .u8 (catN ls 0), false, 5⟩)], 1⟩ ⟨by simp [getT, PV.lo, lo1, h0], by simp [getH, Blk.lo, Cells.lo, lo1, h0], rfl, by omega⟩ ⟨(0), by (first | omega | (simp_all <;> omega)), rfl, rfl⟩ ?_
  rintro m_ s_ ⟨k, hL19_0, rfl, rfl⟩ KL19 hL19
  have hkw := wnext (i := k) (by omega)
  refine swp_seq fun K20 hK20 => ?_
  refine swp_region ty_ok ?_
  try simp (maxSteps := 1000000)
  repeat' (first | apply And.intro | intro _)
  any_goals (first | (refine hK20 _ ?_; clear hK20) | omega | (simp_all <;> omega))
  refine swp_seq fun K21 hK21 => ?_
  refine swp_if fun C22 hC22 => ?_
  try simp (maxSteps := 1000000)
  refine hC22 _ (fun hc22 => ?_) (fun hc22 => ?_)
  ·clear hC22
   try simp at hc22
   refine swp_skip ?_
   try simp only [thn, inBlk]
   refine hK21 _ ?_; clear hK21
   refine swp_seq fun K23 hK23 => ?_
   refine swp_block ?_
   refine swp_seq fun K24 hK24 => ?_
   have hkl : k < ls.length := (by have h := hc22; omega)
   have hrow := l_at (ls := ls) (k := k) hkl
   refine swp_region ty_ok ?_
   try simp (maxSteps := 1000000) [hrow]
   repeat' (first | apply And.intro | intro _)
   any_goals (first | (refine hK24 _ ?_; clear hK24) | omega | (simp_all <;> omega))
   have hfc := flat_le ls k
   have hsum := flat_take (ls := ls) hkl
   have hfl := flat_le ls (k + 1)
   have hadl : (catN ls (k + 1)).length = (catN ls k).length + (ls[k]?.getD []).length := by rw [hsum, List.length_append]
   refine swp_region ty_ok ?_
   try simp (maxSteps := 1000000) [hadl]
   repeat' (first | apply And.intro | intro _)
   any_goals (first | (refine hK23 _ ?_; clear hK23) | omega | (simp_all <;> omega))
   refine swp_region ty_ok ?_
   try simp (maxSteps := 1000000)
   repeat' apply And.intro
   any_goals (try omega)
   refine hL19 _ ⟨[(6, .sl 0 0 (catN ls (k + 1)).length (catN ls (k + 1)).length), (25, .ro (.rows 1 (ls.map fun l => [.ro (.ints .u8 l)]))), (26, .int .i64 ls.length), (27, .int .i64 ((k + 1) : Nat))], [(0, some ⟨.ints .u8 (catN ls (k + 1)), false, 5⟩)], 1⟩ _ ?_ ⟨(k + 1), by (first | omega | (simp_all <;> omega)), rfl, rfl⟩ ⟨by simp [getT, PV.lo, lo1, hkw, hadl], by simp [getH, Blk.lo, Cells.lo, lo1, hsum], rfl, by omega⟩
   omega
  ·clear hC22
   try simp at hc22
   refine swp_exit ?_
   simp [thn, inBlk]
   refine hK17 _ ?_; clear hK17
   refine swp_seq fun K25 hK25 => ?_
   refine swp_region ty_ok ?_
   try simp (maxSteps := 1000000)
   repeat' (first | apply And.intro | intro _)
   any_goals (first | (refine hK25 _ ?_; clear hK25) | omega | (simp_all <;> omega))
   refine swp_ret ?_
   simp [fnPost, Try.results46, resP, tupOf]
   have hke2 : k = ls.length := (by omega)
   subst hke2
   exact htl.symm

end Go.Proofs.Ytgheplondkoedaa

