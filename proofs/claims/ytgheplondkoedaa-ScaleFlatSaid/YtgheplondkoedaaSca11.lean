import Derived.Test.YtgheplondkoedaaWf
import Derived.Test.YtgheplondkoedaaTyh
import Derived.Test.YtgheplondkoedaaHbits
import Derived.Test.YtgheplondkoedaaHbits2
import Derived.Test.YtgheplondkoedaaHsrt
import Derived.Test.YtgheplondkoedaaHbk
import Derived.Test.YtgheplondkoedaaHst
import Derived.Test.YtgheplondkoedaaHbk5
import Derived.Test.YtgheplondkoedaaHbk9
import Derived.Test.YtgheplondkoedaaSca
import Derived.Test.YtgheplondkoedaaSca2
import Derived.Test.YtgheplondkoedaaSca3
import Derived.Test.YtgheplondkoedaaSca4
import Derived.Test.YtgheplondkoedaaSca5
import Derived.Test.YtgheplondkoedaaSca6
import Derived.Test.YtgheplondkoedaaSca7
import Derived.Test.YtgheplondkoedaaSca8
import Derived.Test.YtgheplondkoedaaSca9
namespace Go.Proofs.Ytgheplondkoedaa
set_option linter.unusedVariables false
set_option linter.unusedSimpArgs false
set_option maxRecDepth 10000
open Go Go.Pv

open Go.RowKit
def capS (x : Sc) : Nat := min x.len.toNat 1000
def valS (ga : Int) (x : Sc) : Int := if x.book = 0 then 0 else ga
def flR (ga : Int) (w : List Sc) : List Int := w.flatMap fun x => List.replicate (capS x) (valS ga x)
def ctS (x : Sc) (n : Nat) : Nat := if x.book = 0 then 0 else n
def ctW (w : List Sc) : Nat := (w.map fun x => ctS x (capS x)).sum
def ctL (l : List (List Sc)) (k : Nat) : Nat := ((l.take k).map ctW).sum
def noW (w : List Sc) : Bool := w.any fun x => decide (x.book = 13)
def noL (l : List (List Sc)) (k : Nat) : Bool := (l.take k).any noW
def flP (ga : Int) (l : List (List Sc)) (k : Nat) : List (List PV) := ((l.take k).map (flR ga)).map fun w => [PV.ro (.ints .i64 w)]
theorem flP_0 (ga : Int) (l : List (List Sc)) : flP ga l 0 = [] := by simp [flP]
theorem flP_len {ga : Int} {l : List (List Sc)} {k : Nat} (h : k ≤ l.length) : (flP ga l k).length = k := by simp [flP]; omega
theorem flP_succ {ga : Int} {l : List (List Sc)} {k : Nat} (h : k < l.length) : flP ga l (k + 1) = flP ga l k ++ [[PV.ro (.ints .i64 (flR ga (l[k]?.getD [])))]] := by
 unfold flP
 rw [List.take_succ_eq_append_getElem h, List.getElem?_eq_getElem h, List.map_append, List.map_append]
 rfl
theorem flP_all (ga : Int) (l : List (List Sc)) : flP ga l l.length = (l.map (flR ga)).map fun w => [PV.ro (.ints .i64 w)] := by rw [flP, List.take_length]
theorem flR_succ {ga : Int} {w : List Sc} {j : Nat} (h : j < w.length) : flR ga (w.take (j + 1)) = flR ga (w.take j) ++ List.replicate (capS (w[j]?.getD default)) (valS ga (w[j]?.getD default)) := by
 unfold flR
 rw [List.take_succ_eq_append_getElem h, List.flatMap_append, List.getElem?_eq_getElem h]
 simp
theorem ctW_succ {w : List Sc} {j : Nat} (h : j < w.length) : ctW (w.take (j + 1)) = ctW (w.take j) + ctS (w[j]?.getD default) (capS (w[j]?.getD default)) := by
 unfold ctW
 rw [List.take_succ_eq_append_getElem h, List.map_append, List.sum_append, List.getElem?_eq_getElem h]
 simp
theorem ctL_succ {l : List (List Sc)} {k : Nat} (h : k < l.length) : ctL l (k + 1) = ctL l k + ctW (l[k]?.getD []) := by
 unfold ctL
 rw [List.take_succ_eq_append_getElem h, List.map_append, List.sum_append, List.getElem?_eq_getElem h]
 simp
theorem noW_succ {w : List Sc} {j : Nat} (h : j < w.length) : noW (w.take (j + 1)) = (noW (w.take j) || decide ((w[j]?.getD default).book = 13)) := by
 unfold noW
 rw [List.take_succ_eq_append_getElem h, List.any_append, List.getElem?_eq_getElem h]
 simp
theorem noL_succ {l : List (List Sc)} {k : Nat} (h : k < l.length) : noL l (k + 1) = (noL l k || noW (l[k]?.getD [])) := by
 unfold noL
 rw [List.take_succ_eq_append_getElem h, List.any_append, List.getElem?_eq_getElem h]
 simp
theorem capS_le (x : Sc) : capS x ≤ 1000 := by unfold capS; omega
theorem ctS_le (x : Sc) (n : Nat) : ctS x n ≤ n := by unfold ctS; split <;> omega
theorem flR_len (ga : Int) : ∀ w : List Sc, (flR ga w).length ≤ 1000 * w.length
 | [] => by simp [flR]
 | x :: w => by
  have h1 := flR_len ga w
  have h2 := capS_le x
  unfold flR at h1 ⊢
  rw [List.flatMap_cons, List.length_append, List.length_replicate, List.length_cons]
  omega
theorem ctW_le : ∀ w : List Sc, ctW w ≤ 1000 * w.length
 | [] => by simp [ctW]
 | x :: w => by
  have h1 := ctW_le w
  have h2 := capS_le x
  have h3 := ctS_le x (capS x)
  unfold ctW at h1 ⊢
  rw [List.map_cons, List.sum_cons, List.length_cons]
  omega
theorem ctL_le {l : List (List Sc)} (hw : ∀ w ∈ l, w.length ≤ 200) : ∀ k, ctL l k ≤ 200000 * k
 | 0 => by simp [ctL]
 | k + 1 => by
  have h1 := ctL_le hw k
  by_cases h : k < l.length
  ·rw [ctL_succ h]
   have h2 := ctW_le (l[k]?.getD [])
   have h3 : (l[k]?.getD []).length ≤ 200 := hw _ (mem_at (w := l) (j := k) h)
   omega
  ·have : ctL l (k + 1) = ctL l k := by unfold ctL; rw [List.take_of_length_le (by omega), List.take_of_length_le (by omega)]
   omega
theorem fl_bk {ga : Int} : ∀ {w : List Sc}, (∀ x ∈ w, badS x = false) → flR ga w = (bkR w).map (fun b => if b = 0 then 0 else ga) ∧ ctW w = ((bkR w).filter (fun b => decide (¬ b = 0))).length
 | [], _ => ⟨rfl, rfl⟩
 | x :: w, h => by
  obtain ⟨h1, h2⟩ := fl_bk (ga := ga) (w := w) fun y hy => h y (by simp [hy])
  have hb := badS_no (h x (by simp))
  have hc : capS x = x.len.toNat := by unfold capS; have := hb.1; omega
  have e : bkR (x :: w) = List.replicate x.len.toNat x.book ++ bkR w := by simp [bkR]
  have e2 : flR ga (x :: w) = List.replicate (capS x) (valS ga x) ++ flR ga w := by simp [flR]
  have e3 : ctW (x :: w) = ctS x (capS x) + ctW w := by simp [ctW]
  rw [e, e2, e3, hc, h1, h2]
  constructor
  ·rw [List.map_append, List.map_replicate]; rfl
  ·rw [List.filter_append, List.length_append, List.filter_replicate]
   unfold ctS
   by_cases hz : x.book = 0
   ·rw [if_pos hz, if_neg (by simp [hz])]; rfl
   ·rw [if_neg hz, if_pos (by simp [hz]), List.length_replicate]
theorem stepL_0 : stepL 0 = [1] := by decide +kernel
theorem rw_flat {ga : Int} {bs : List Int} (h : ∀ b ∈ bs, ¬ b = 13) : ∀ k, k ≤ bs.length → aN bs (bs.map (fun b => if b = 0 then 0 else ga)) (ga, -1) k = (ga, -1) ∧ (rwB bs (bs.map (fun b => if b = 0 then 0 else ga)) (ga, -1) k).length = ((bs.take k).filter (fun b => decide (¬ b = 0))).length
 | 0, _ => ⟨rfl, rfl⟩
 | k + 1, hk => by
  obtain ⟨h1, h2⟩ := rw_flat h k (by omega)
  have hb := h _ (List.getElem_mem (show k < bs.length by omega))
  have e1 : bs[k]?.getD 0 = bs[k] := by rw [List.getElem?_eq_getElem (by omega)]; rfl
  have e2 : (bs.map (fun b => if b = 0 then 0 else ga))[k]?.getD 0 = if bs[k] = 0 then 0 else ga := by rw [List.getElem?_map, List.getElem?_eq_getElem (by omega)]; rfl
  rw [aN, rwB, h1, e1, e2, List.length_append, h2, List.take_succ_eq_append_getElem (by omega), List.filter_append, List.length_append]
  by_cases hz : bs[k] = 0
  ·rw [bdN_00 hz, bdL_0 hz]
   simp [hz]
  ·rw [bdN_n0 hz, tkN_n hb, bdL_s hz hb, if_neg hz]
   dsimp only
   rw [Int.sub_self, stepL_0]
   simp [hz]
theorem noW_no {w : List Sc} (h : noW w = false) : ∀ b ∈ bkR w, ¬ b = 13 := fun b hb h13 => by
 unfold bkR at hb
 rw [List.mem_flatMap] at hb
 obtain ⟨x, hx, h2⟩ := hb
 have h3 := (List.mem_replicate.1 h2).2
 unfold noW at h
 have := List.any_eq_false.1 h x hx
 simp at this
 omega
theorem fl_at {ga : Int} {l : List (List Sc)} {k : Nat} (h : k < l.length) : (l.map (flR ga))[k]?.getD [] = flR ga (l[k]?.getD []) := by
 rw [List.getElem?_map, List.getElem?_eq_getElem h]; rfl
theorem g_flat {ga : Int} {l : List (List Sc)} (hm : ∀ w ∈ l, (∀ x ∈ w, badS x = false) ∧ (w.map Sc.len).sum ≤ 40 ∧ w.length ≤ 40) (hn : noL l l.length = false) : ∀ k, k ≤ l.length → gN l (l.map (flR ga)) ga k = (ga, -1) ∧ (gB l (l.map (flR ga)) ga k).length = ctL l k
 | 0, _ => ⟨rfl, rfl⟩
 | k + 1, hk => by
  obtain ⟨h1, h2⟩ := g_flat hm hn k (by omega)
  have hw : l[k]?.getD [] ∈ l := mem_at (w := l) (j := k) (by omega)
  obtain ⟨f1, f2⟩ := fl_bk (ga := ga) (w := l[k]?.getD []) (hm _ hw).1
  have hno : noW (l[k]?.getD []) = false := by
   unfold noL at hn
   rw [List.take_length] at hn
   have := List.any_eq_false.1 hn _ hw
   simpa using this
  obtain ⟨g1, g2⟩ := rw_flat (ga := ga) (noW_no hno) (bkR (l[k]?.getD [])).length (Nat.le_refl _)
  have hRe : RW l k = bkR (l[k]?.getD []) := rfl
  rw [gN, gB, h1, fl_at (by omega), f1, hRe, List.length_append, h2, g1, g2, ctL_succ (by omega), f2, List.take_length]
  exact ⟨rfl, rfl⟩
theorem flat_law {ga : Int} {l : List (List Sc)} (hc : chS ga l (l.map (flR ga)) = 0) (hn : noL l l.length = false) : (gB l (l.map (flR ga)) ga l.length).length = ctL l l.length := (g_flat (mayG_true (chS_ok hc).1).2 hn l.length (Nat.le_refl _)).2

attribute [local simp] runs gd step1 need evu un opnds opv ev cst cst1 cstL getT getH putT onL nxt argT cellsOf PV.one thn inBlk jmp fldP ldP ldC live Cells.len Cells.get Cells.w sug ldv bin eqF eq1 ops2 sh2 binv Tk.agg stC apC rdS apS cpC cpS mvL zp argsP idx fillP toInts chunks mkC ixS ixA oidx slP sl0 slA optL List.append mxF bltn frzA frz frzL frz1 pur1 Cells.pur PV.scal scal1 runD rdO PV.ids id1 zids ety Eff.on cnd minb and1b ifmax ifmin mxv sugI strv w0 w1 w2 wm1
set_option maxHeartbeats 8000000 in
theorem scaleFlat_yes (ga : Int) (hgi : -9223372036854775808 ≤ ga ∧ ga ≤ 9223372036854775807) (l : List (List Sc)) (hc : chS ga l (l.map (flR ga)) = 0) : PCall Try.prog 6 [.int .i64 ga, .ro (.rows 1 (l.map fun w => [.ro (.rows 2 (w.map Sc.row))]))] (.bool true) := by
 refine pcall_body ty_ok Try.func6 rfl (by rfl) (by simp) ?_
 rw [Try.ntmps6]
 refine swp_seq fun K1 hK1 => ?_
 refine swp_region ty_ok ?_
 try simp (maxSteps := 1000000)
 repeat' (first | apply And.intro | intro _)
 any_goals (first | (refine hK1 _ ?_; clear hK1) | omega | (simp_all <;> omega))
 refine swp_seq fun K2 hK2 => ?_
 refine swp_region ty_ok ?_
 refine runs_cut 1 fun R3 hR3 => ?_
 try simp (maxSteps := 1000000) [List.take_succ_cons, List.take_zero, List.drop_succ_cons, List.drop_zero]
 refine .inl ⟨_, alive20, ?_⟩
 try simp (maxSteps := 1000000)
 repeat' (first | apply And.intro | intro _)
 any_goals (first | (refine hR3 _ ?_; clear hR3) | omega | (simp_all <;> omega))
 try simp (maxSteps := 1000000) [List.take_succ_cons, List.take_zero, List.drop_succ_cons, List.drop_zero]
 repeat' (first | apply And.intro | intro _)
 any_goals (first | (refine hK2 _ ?_; clear hK2) | omega | (simp_all <;> omega))
 refine swp_seq fun K4 hK4 => ?_
 refine swp_seq fun K5 hK5 => ?_
 refine swp_region ty_ok ?_
 refine runs_cut 1 fun R6 hR6 => ?_
 try simp (maxSteps := 1000000) [List.take_succ_cons, List.take_zero, List.drop_succ_cons, List.drop_zero]
 repeat' (first | apply And.intro | intro _)
 any_goals (first | (refine hR6 _ ?_; clear hR6) | omega | (simp_all <;> omega))
 refine runs_cut 1 fun R7 hR7 => ?_
 try simp (maxSteps := 1000000) [List.take_succ_cons, List.take_zero, List.drop_succ_cons, List.drop_zero]
 refine .inl ⟨_, great19_ok l, ?_⟩
 try simp (maxSteps := 1000000)
 repeat' (first | apply And.intro | intro _)
 any_goals (first | (refine hR7 _ ?_; clear hR7) | omega | (simp_all <;> omega))
 try simp (maxSteps := 1000000) [List.take_succ_cons, List.take_zero, List.drop_succ_cons, List.drop_zero]
 repeat' (first | apply And.intro | intro _)
 any_goals (first | (refine hK5 _ ?_; clear hK5) | omega | (simp_all <;> omega))
 refine swp_if fun C8 hC8 => ?_
 try simp (maxSteps := 1000000)
 refine hC8 _ (fun hc8 => ?_) (fun hc8 => ?_)
 ·clear hC8
  try simp at hc8
  refine swp_seq fun K9 hK9 => ?_
  refine swp_region ty_ok ?_
  try simp (maxSteps := 1000000)
  repeat' (first | apply And.intro | intro _)
  any_goals (first | (refine hK9 _ ?_; clear hK9) | omega | (simp_all <;> omega))
  refine swp_ret ?_
  simp [fnPost, Try.results6, resP, tupOf]
 ·clear hC8
  try simp at hc8
  refine swp_skip ?_
  try simp only [thn, inBlk]
  refine hK4 _ ?_; clear hK4
  refine swp_seq fun K10 hK10 => ?_
  have hcc := hc8
  obtain ⟨hl1, hlw⟩ := grt_no (l := l) (by first | exact hcc.1 | exact hcc | simpa using hcc)
  have hctl := ctL_le hlw
  have hfl : (l.map (flR ga)).length = l.length := List.length_map ..
  have hB := put20_ok [] ga l (l.map (flR ga)) (by simp) (by omega) (fun w hw => by have := hlw w hw; omega) (by omega) (fun w hw => by
   rw [List.mem_map] at hw
   obtain ⟨v, hv, rfl⟩ := hw
   have h1 := flR_len ga v
   have h2 := hlw v hv
   omega)
  have hfl2 := flat_law hc
  rw [if_pos hc, hc, List.nil_append] at hB
  rw [List.map_map] at hB
  refine swp_region ty_ok ?_
  try simp (maxSteps := 1000000)
  repeat' (first | apply And.intro | intro _)
  any_goals (first | (refine hK10 _ ?_; clear hK10) | omega | (simp_all <;> omega))
  refine swp_seq fun K11 hK11 => ?_
  refine swp_region ty_ok ?_
  try simp (maxSteps := 1000000)
  repeat' (first | apply And.intro | intro _)
  any_goals (first | (refine hK11 _ ?_; clear hK11) | omega | (simp_all <;> omega))
  refine swp_seq fun K12 hK12 => ?_
  refine swp_region ty_ok ?_
  try simp (maxSteps := 1000000)
  repeat' (first | apply And.intro | intro _)
  any_goals (first | (refine hK12 _ ?_; clear hK12) | omega | (simp_all <;> omega))
  refine swp_seq fun K13 hK13 => ?_
  refine swp_seq fun K14 hK14 => ?_
  refine swp_region ty_ok ?_
  try simp (maxSteps := 1000000)
  repeat' (first | apply And.intro | intro _)
  any_goals (first | (refine hK14 _ ?_; clear hK14) | omega | (simp_all <;> omega))
  refine swp_block ?_
  refine swp_own 6 23 (by simp [getT]; rfl) rfl ?_
  refine swp_loop 1 (fun m_ s_ => ∃ (k : Nat), (k ≤ l.length) ∧ s_ = ⟨[(0, .int .i64 ga), (1, .ro (.rows 1 (l.map fun w => [.ro (.rows 2 (w.map Sc.row))]))), (6, .sl 0 0 k k), (7, .int .i64 (ctL l k : Nat)), (8, .bool (noL l k)), (9, .int .i64 (k : Nat))], [(0, some ⟨.rows 1 (flP ga l k), false, 23⟩)], 1⟩ ∧ m_ = l.length - k) _ ⟨[(0, .int .i64 ga), (1, .ro (.rows 1 (l.map fun w => [.ro (.rows 2 (w.map Sc.row))]))), (6, .sl 0 0 0 0), (7, .int .i64 (ctL l 0 : Nat)), (8, .bool (noL l 0)), (9, .int .i64 (0 : Nat))], [(0, some ⟨.rows 1 (flP ga l 0), false, 23⟩)], 1⟩ ⟨by simp [getT, PV.lo, lo1, ctL, noL], by simp [getH, Blk.lo, Cells.lo, lo1, flP_0], rfl, by omega⟩ ⟨(0), by omega, rfl, rfl⟩ ?_
  rintro m_ s_ ⟨k, hL15_0, rfl, rfl⟩ KL15 hL15
  have hkw := wnext (i := k) (by omega)
  have hcr := flP_len (ga := ga) (l := l) (k := k) (by omega)
  refine swp_seq fun K16 hK16 => ?_
  refine swp_seq fun K17 hK17 => ?_
  refine swp_region ty_ok ?_
  try simp (maxSteps := 1000000)
  repeat' (first | apply And.intro | intro _)
  any_goals (first | (refine hK17 _ ?_; clear hK17) | omega | (simp_all <;> omega))
  refine swp_if fun C18 hC18 => ?_
  try simp (maxSteps := 1000000)
  refine hC18 _ (fun hc18 => ?_) (fun hc18 => ?_)
  ·clear hC18
   try simp at hc18
   refine swp_skip ?_
   try simp only [thn, inBlk]
   refine hK16 _ ?_; clear hK16
   refine swp_seq fun K19 hK19 => ?_
   refine swp_block ?_
   refine swp_seq fun K20 hK20 => ?_
   have hrowS := s_at (l := l) (k := k) (by omega)
   have hlk : (l[k]?.getD []).length ≤ 200 := hlw _ (mem_at (w := l) (j := k) (by omega))
   have hck := hctl k
   refine swp_region ty_ok ?_
   try simp (maxSteps := 1000000)
   repeat' (first | apply And.intro | intro _)
   any_goals (first | (refine hK20 _ ?_; clear hK20) | omega | (simp_all <;> omega))
   refine swp_seq fun K21 hK21 => ?_
   refine swp_seq fun K22 hK22 => ?_
   refine swp_region ty_ok ?_
   try simp (maxSteps := 1000000)
   repeat' (first | apply And.intro | intro _)
   any_goals (first | (refine hK22 _ ?_; clear hK22) | omega | (simp_all <;> omega))
   refine swp_block ?_
   refine swp_own 10 3 (by simp [getT]; rfl) rfl ?_
   refine swp_loop 2 (fun m_ s_ => ∃ (j : Nat), (j ≤ (l[k]?.getD []).length) ∧ s_ = ⟨[(0, .int .i64 ga), (1, .ro (.rows 1 (l.map fun w => [.ro (.rows 2 (w.map Sc.row))]))), (6, .sl 0 0 k k), (7, .int .i64 ((ctL l k + ctW ((l[k]?.getD []).take j)) : Nat)), (8, .bool (noL l k || noW ((l[k]?.getD []).take j))), (9, .int .i64 (k : Nat)), (10, .sl 1 0 (flR ga ((l[k]?.getD []).take j)).length (flR ga ((l[k]?.getD []).take j)).length), (11, .int .i64 (j : Nat))], [(0, some ⟨.rows 1 (flP ga l k), false, 23⟩), (1, some ⟨.ints .i64 (flR ga ((l[k]?.getD []).take j)), false, 3⟩)], 2⟩ ∧ m_ = (l[k]?.getD []).length - j) _ ⟨[(0, .int .i64 ga), (1, .ro (.rows 1 (l.map fun w => [.ro (.rows 2 (w.map Sc.row))]))), (6, .sl 0 0 k k), (7, .int .i64 ((ctL l k + ctW ((l[k]?.getD []).take 0)) : Nat)), (8, .bool (noL l k || noW ((l[k]?.getD []).take 0))), (9, .int .i64 (k : Nat)), (10, .sl 1 0 (flR ga ((l[k]?.getD []).take 0)).length (flR ga ((l[k]?.getD []).take 0)).length), (11, .int .i64 (0 : Nat))], [(0, some ⟨.rows 1 (flP ga l k), false, 23⟩), (1, some ⟨.ints .i64 (flR ga ((l[k]?.getD []).take 0)), false, 3⟩)], 2⟩ ⟨by simp [getT, PV.lo, lo1, flR, ctW, noW], by simp [getH, Blk.lo, Cells.lo, lo1, flR], rfl, by omega⟩ ⟨(0), by omega, rfl, rfl⟩ ?_
   rintro m_ s_ ⟨j, hL23_0, rfl, rfl⟩ KL23 hL23
   have hjw := wnext (i := j) (by omega)
   refine swp_seq fun K24 hK24 => ?_
   refine swp_seq fun K25 hK25 => ?_
   refine swp_region ty_ok ?_
   try simp (maxSteps := 1000000) [hrowS]
   repeat' (first | apply And.intro | intro _)
   any_goals (first | (refine hK25 _ ?_; clear hK25) | omega | (simp_all <;> omega))
   refine swp_if fun C26 hC26 => ?_
   try simp (maxSteps := 1000000) [hrowS]
   refine hC26 _ (fun hc26 => ?_) (fun hc26 => ?_)
   ·clear hC26
    try simp at hc26
    refine swp_skip ?_
    try simp only [thn, inBlk]
    refine hK24 _ ?_; clear hK24
    refine swp_seq fun K27 hK27 => ?_
    refine swp_block ?_
    refine swp_seq fun K28 hK28 => ?_
    have hri := sc_at (ws := (l[k]?.getD [])) (k := j) (by omega)
    have hfj := flR_len ga ((l[k]?.getD []).take j)
    have hcj := ctW_le ((l[k]?.getD []).take j)
    have htj : ((l[k]?.getD []).take j).length ≤ j := by simp; omega
    have hcap : capS ((l[k]?.getD [])[j]?.getD default) = min ((l[k]?.getD [])[j]?.getD default).len.toNat 1000 := rfl
    have hcle := capS_le ((l[k]?.getD [])[j]?.getD default)
    refine swp_region ty_ok ?_
    refine runs_cut 6 fun R29 hR29 => ?_
    try simp (maxSteps := 1000000) [hrowS, hri, List.take_succ_cons, List.take_zero, List.drop_succ_cons, List.drop_zero]
    repeat' (first | apply And.intro | intro _)
    any_goals (first | (refine hR29 _ ?_; clear hR29) | omega | (simp_all <;> omega))
    try simp (maxSteps := 1000000) [hrowS, hri, List.take_succ_cons, List.take_zero, List.drop_succ_cons, List.drop_zero]
    repeat' (first | apply And.intro | intro _)
    any_goals (first | (refine hK28 _ ?_; clear hK28) | omega | (simp_all <;> omega))
    refine swp_seq fun K30 hK30 => ?_
    refine swp_region ty_ok ?_
    try simp (maxSteps := 1000000)
    repeat' (first | apply And.intro | intro _)
    any_goals (first | (refine hK30 _ ?_; clear hK30) | omega | (simp_all <;> omega))
    refine swp_block ?_
    refine swp_loop 2 (fun m_ s_ => ∃ (c : Nat), (c ≤ capS ((l[k]?.getD [])[j]?.getD default)) ∧ s_ = ⟨[(0, .int .i64 ga), (1, .ro (.rows 1 (l.map fun w => [.ro (.rows 2 (w.map Sc.row))]))), (6, .sl 0 0 k k), (7, .int .i64 ((ctL l k + ctW ((l[k]?.getD []).take j) + ctS ((l[k]?.getD [])[j]?.getD default) c) : Nat)), (8, .bool ((noL l k || noW ((l[k]?.getD []).take j)) || decide (((l[k]?.getD [])[j]?.getD default).book = 13))), (9, .int .i64 (k : Nat)), (10, .sl 1 0 ((flR ga ((l[k]?.getD []).take j)).length + c) ((flR ga ((l[k]?.getD []).take j)).length + c)), (11, .int .i64 (j : Nat)), (12, .int .i64 (c : Nat))], [(0, some ⟨.rows 1 (flP ga l k), false, 23⟩), (1, some ⟨.ints .i64 (flR ga ((l[k]?.getD []).take j) ++ List.replicate c (valS ga ((l[k]?.getD [])[j]?.getD default))), false, 3⟩)], 2⟩ ∧ m_ = capS ((l[k]?.getD [])[j]?.getD default) - c) _ ⟨[(0, .int .i64 ga), (1, .ro (.rows 1 (l.map fun w => [.ro (.rows 2 (w.map Sc.row))]))), (6, .sl 0 0 k k), (7, .int .i64 ((ctL l k + ctW ((l[k]?.getD []).take j) + ctS ((l[k]?.getD [])[j]?.getD default) 0) : Nat)), (8, .bool ((noL l k || noW ((l[k]?.getD []).take j)) || decide (((l[k]?.getD [])[j]?.getD default).book = 13))), (9, .int .i64 (k : Nat)), (10, .sl 1 0 ((flR ga ((l[k]?.getD []).take j)).length + 0) ((flR ga ((l[k]?.getD []).take j)).length + 0)), (11, .int .i64 (j : Nat)), (12, .int .i64 (0 : Nat))], [(0, some ⟨.rows 1 (flP ga l k), false, 23⟩), (1, some ⟨.ints .i64 (flR ga ((l[k]?.getD []).take j) ++ List.replicate 0 (valS ga ((l[k]?.getD [])[j]?.getD default))), false, 3⟩)], 2⟩ ⟨by simp [getT, PV.lo, lo1, ctS], by simp [getH, Blk.lo, Cells.lo, lo1], rfl, by omega⟩ ⟨(0), by omega, rfl, rfl⟩ ?_
    rintro m_ s_ ⟨c, hL31_0, rfl, rfl⟩ KL31 hL31
    have hcw := wnext (i := c) (by omega)
    refine swp_seq fun K32 hK32 => ?_
    refine swp_seq fun K33 hK33 => ?_
    refine swp_region ty_ok ?_
    refine runs_cut 7 fun R34 hR34 => ?_
    try simp (maxSteps := 1000000) [hrowS, hri, List.take_succ_cons, List.take_zero, List.drop_succ_cons, List.drop_zero]
    repeat' (first | apply And.intro | intro _)
    any_goals (first | (refine hR34 _ ?_; clear hR34) | omega | (simp_all <;> omega))
    try simp (maxSteps := 1000000) [hrowS, hri, List.take_succ_cons, List.take_zero, List.drop_succ_cons, List.drop_zero]
    repeat' (first | apply And.intro | intro _)
    any_goals (first | (refine hK33 _ ?_; clear hK33) | omega | (simp_all <;> omega))
    refine swp_if fun C35 hC35 => ?_
    try simp (maxSteps := 1000000) [hrowS, hri]
    refine hC35 _ (fun hc35 => ?_) (fun hc35 => ?_)
    ·clear hC35
     try simp at hc35
     refine swp_skip ?_
     try simp only [thn, inBlk]
     refine hK32 _ ?_; clear hK32
     refine swp_seq fun K36 hK36 => ?_
     refine swp_block ?_
     refine swp_seq fun K37 hK37 => ?_
     refine swp_seq fun K38 hK38 => ?_
     have hsl := ctS_le ((l[k]?.getD [])[j]?.getD default) c
     refine swp_region ty_ok ?_
     try simp (maxSteps := 1000000) [hrowS, hri]
     repeat' (first | apply And.intro | intro _)
     any_goals (first | (refine hK38 _ ?_; clear hK38) | omega | (simp_all <;> omega))
     refine swp_if fun C39 hC39 => ?_
     try simp (maxSteps := 1000000) [hrowS, hri]
     refine hC39 _ (fun hc39 => ?_) (fun hc39 => ?_)
     ·clear hC39
      try simp at hc39
      refine swp_seq fun K40 hK40 => ?_
      have hz : ((l[k]?.getD [])[j]?.getD default).book = 0 := hc39
      have hv : valS ga ((l[k]?.getD [])[j]?.getD default) = 0 := if_pos hz
      have hct : ∀ n, ctS ((l[k]?.getD [])[j]?.getD default) n = 0 := fun n => if_pos hz
      refine swp_region ty_ok ?_
      refine runs_cut 1 fun R41 hR41 => ?_
      try simp (maxSteps := 1000000) [List.take_succ_cons, List.take_zero, List.drop_succ_cons, List.drop_zero]
      repeat' (first | apply And.intro | intro _)
      any_goals (first | (refine hR41 _ ?_; clear hR41) | omega | (simp_all <;> omega))
      refine runs_cut 1 fun R42 hR42 => ?_
      try simp (maxSteps := 1000000) [List.take_succ_cons, List.take_zero, List.drop_succ_cons, List.drop_zero]
      repeat' (first | apply And.intro | intro _)
      any_goals (first | (refine Or.inl (hR42 _ ?_); clear hR42) | omega | (simp_all <;> omega))
      try simp (maxSteps := 1000000) [List.take_succ_cons, List.take_zero, List.drop_succ_cons, List.drop_zero]
      repeat' (first | apply And.intro | intro _)
      any_goals (first | (refine hK40 _ ?_; clear hK40) | omega | (simp_all <;> omega))
      refine swp_exit ?_
      simp [thn, inBlk]
      refine hK36 _ ?_; clear hK36
      refine swp_region ty_ok ?_
      try simp (maxSteps := 1000000)
      repeat' apply And.intro
      any_goals (try omega)
      refine hL31 _ ⟨[(0, .int .i64 ga), (1, .ro (.rows 1 (l.map fun w => [.ro (.rows 2 (w.map Sc.row))]))), (6, .sl 0 0 k k), (7, .int .i64 ((ctL l k + ctW ((l[k]?.getD []).take j) + ctS ((l[k]?.getD [])[j]?.getD default) (c + 1)) : Nat)), (8, .bool ((noL l k || noW ((l[k]?.getD []).take j)) || decide (((l[k]?.getD [])[j]?.getD default).book = 13))), (9, .int .i64 (k : Nat)), (10, .sl 1 0 ((flR ga ((l[k]?.getD []).take j)).length + (c + 1)) ((flR ga ((l[k]?.getD []).take j)).length + (c + 1))), (11, .int .i64 (j : Nat)), (12, .int .i64 ((c + 1) : Nat))], [(0, some ⟨.rows 1 (flP ga l k), false, 23⟩), (1, some ⟨.ints .i64 (flR ga ((l[k]?.getD []).take j) ++ List.replicate (c + 1) (valS ga ((l[k]?.getD [])[j]?.getD default))), false, 3⟩)], 2⟩ _ ?_ ⟨(c + 1), by omega, rfl, rfl⟩ ⟨by (simp [getT, PV.lo, lo1, hcw, hct]; first | done | omega | (refine ⟨?_, by omega⟩; rw [w64 (by omega)]; omega)), by simp [getH, Blk.lo, Cells.lo, lo1, List.replicate_succ', hv], rfl, by omega⟩
      omega
     ·clear hC39
      try simp at hc39
      refine swp_skip ?_
      try simp only [thn, inBlk]
      refine hK37 _ ?_; clear hK37
      refine swp_seq fun K43 hK43 => ?_
      have hz : ¬ ((l[k]?.getD [])[j]?.getD default).book = 0 := hc39
      have hv : valS ga ((l[k]?.getD [])[j]?.getD default) = ga := if_neg hz
      have hct : ∀ n, ctS ((l[k]?.getD [])[j]?.getD default) n = n := fun n => if_neg hz
      rw [hct] at hsl
      have hsm : IntKind.i64.wrap (((ctL l k + ctW ((l[k]?.getD []).take j) + ctS ((l[k]?.getD [])[j]?.getD default) c : Nat) : Int) + 1) = ((ctL l k + ctW ((l[k]?.getD []).take j) + ctS ((l[k]?.getD [])[j]?.getD default) (c + 1) : Nat) : Int) := by rw [hct, hct]; exact wnext (by omega)
      refine swp_region ty_ok ?_
      refine runs_cut 2 fun R44 hR44 => ?_
      try simp (maxSteps := 1000000) [List.take_succ_cons, List.take_zero, List.drop_succ_cons, List.drop_zero]
      repeat' (first | apply And.intro | intro _)
      any_goals (first | (refine hR44 _ ?_; clear hR44) | omega | (simp_all <;> omega))
      refine runs_cut 1 fun R45 hR45 => ?_
      try simp (maxSteps := 1000000) [List.take_succ_cons, List.take_zero, List.drop_succ_cons, List.drop_zero]
      repeat' (first | apply And.intro | intro _)
      any_goals (first | (refine Or.inl (hR45 _ ?_); clear hR45) | omega | (simp_all <;> omega))
      try simp (maxSteps := 1000000) [List.take_succ_cons, List.take_zero, List.drop_succ_cons, List.drop_zero]
      repeat' (first | apply And.intro | intro _)
      any_goals (first | (refine hK43 _ ?_; clear hK43) | omega | (simp_all <;> omega))
      refine swp_region ty_ok ?_
      try simp (maxSteps := 1000000) [hsm]
      repeat' (first | apply And.intro | intro _)
      any_goals (first | (refine hK36 _ ?_; clear hK36) | omega | (simp_all <;> omega))
      refine swp_region ty_ok ?_
      try simp (maxSteps := 1000000)
      repeat' apply And.intro
      any_goals (try omega)
      refine hL31 _ ⟨[(0, .int .i64 ga), (1, .ro (.rows 1 (l.map fun w => [.ro (.rows 2 (w.map Sc.row))]))), (6, .sl 0 0 k k), (7, .int .i64 ((ctL l k + ctW ((l[k]?.getD []).take j) + ctS ((l[k]?.getD [])[j]?.getD default) (c + 1)) : Nat)), (8, .bool ((noL l k || noW ((l[k]?.getD []).take j)) || decide (((l[k]?.getD [])[j]?.getD default).book = 13))), (9, .int .i64 (k : Nat)), (10, .sl 1 0 ((flR ga ((l[k]?.getD []).take j)).length + (c + 1)) ((flR ga ((l[k]?.getD []).take j)).length + (c + 1))), (11, .int .i64 (j : Nat)), (12, .int .i64 ((c + 1) : Nat))], [(0, some ⟨.rows 1 (flP ga l k), false, 23⟩), (1, some ⟨.ints .i64 (flR ga ((l[k]?.getD []).take j) ++ List.replicate (c + 1) (valS ga ((l[k]?.getD [])[j]?.getD default))), false, 3⟩)], 2⟩ _ ?_ ⟨(c + 1), by omega, rfl, rfl⟩ ⟨by (simp [getT, PV.lo, lo1, hcw, hct]; first | done | omega | (refine ⟨?_, by omega⟩; rw [w64 (by omega)]; omega)), by simp [getH, Blk.lo, Cells.lo, lo1, List.replicate_succ', hv], rfl, by omega⟩
      omega
    ·clear hC35
     try simp at hc35
     refine swp_exit ?_
     simp [thn, inBlk]
     refine hK27 _ ?_; clear hK27
     refine swp_region ty_ok ?_
     try simp (maxSteps := 1000000)
     repeat' apply And.intro
     any_goals (try omega)
     refine hL23 _ ⟨[(0, .int .i64 ga), (1, .ro (.rows 1 (l.map fun w => [.ro (.rows 2 (w.map Sc.row))]))), (6, .sl 0 0 k k), (7, .int .i64 ((ctL l k + ctW ((l[k]?.getD []).take (j + 1))) : Nat)), (8, .bool (noL l k || noW ((l[k]?.getD []).take (j + 1)))), (9, .int .i64 (k : Nat)), (10, .sl 1 0 (flR ga ((l[k]?.getD []).take (j + 1))).length (flR ga ((l[k]?.getD []).take (j + 1))).length), (11, .int .i64 ((j + 1) : Nat))], [(0, some ⟨.rows 1 (flP ga l k), false, 23⟩), (1, some ⟨.ints .i64 (flR ga ((l[k]?.getD []).take (j + 1))), false, 3⟩)], 2⟩ _ ?_ ⟨(j + 1), by omega, rfl, rfl⟩ ⟨by (have hce : c = capS ((l[k]?.getD [])[j]?.getD default) := (by omega); subst hce; simp [getT, PV.lo, lo1, hjw, flR_succ (ga := ga) (w := (l[k]?.getD [])) (j := j) (by omega), ctW_succ (w := (l[k]?.getD [])) (j := j) (by omega), noW_succ (w := (l[k]?.getD [])) (j := j) (by omega)]; exact ⟨by omega, Bool.or_assoc ..⟩), by (have hce : c = capS ((l[k]?.getD [])[j]?.getD default) := (by omega); subst hce; simp [getH, Blk.lo, Cells.lo, lo1, flR_succ (ga := ga) (w := (l[k]?.getD [])) (j := j) (by omega)]), rfl, by omega⟩
     omega
   ·clear hC26
    try simp at hc26
    refine swp_exit ?_
    simp [thn, inBlk]
    refine hK21 _ ?_; clear hK21
    refine swp_region ty_ok ?_
    refine runs_cut 2 fun R46 hR46 => ?_
    try simp (maxSteps := 1000000) [List.take_succ_cons, List.take_zero, List.drop_succ_cons, List.drop_zero]
    repeat' (first | apply And.intro | intro _)
    any_goals (first | (refine hR46 _ ?_; clear hR46) | omega | (simp_all <;> omega))
    refine runs_cut 1 fun R47 hR47 => ?_
    try simp (maxSteps := 1000000) [List.take_succ_cons, List.take_zero, List.drop_succ_cons, List.drop_zero]
    repeat' (first | apply And.intro | intro _)
    any_goals (first | (refine Or.inl (hR47 _ ?_); clear hR47) | omega | (simp_all <;> omega))
    try simp (maxSteps := 1000000) [List.take_succ_cons, List.take_zero, List.drop_succ_cons, List.drop_zero]
    repeat' (first | apply And.intro | intro _)
    any_goals (first | (refine hK19 _ ?_; clear hK19) | omega | (simp_all <;> omega))
    refine swp_region ty_ok ?_
    try simp (maxSteps := 1000000)
    repeat' apply And.intro
    any_goals (try omega)
    refine hL15 _ ⟨[(0, .int .i64 ga), (1, .ro (.rows 1 (l.map fun w => [.ro (.rows 2 (w.map Sc.row))]))), (6, .sl 0 0 (k + 1) (k + 1)), (7, .int .i64 (ctL l (k + 1) : Nat)), (8, .bool (noL l (k + 1))), (9, .int .i64 ((k + 1) : Nat))], [(0, some ⟨.rows 1 (flP ga l (k + 1)), false, 23⟩)], 1⟩ _ ?_ ⟨(k + 1), by omega, rfl, rfl⟩ ⟨by (have hje : j = (l[k]?.getD []).length := (by omega); subst hje; simp [getT, PV.lo, lo1, hkw, ctL_succ (l := l) (k := k) (by omega), noL_succ (l := l) (k := k) (by omega)]), by (have hje : j = (l[k]?.getD []).length := (by omega); subst hje; simp [getH, Blk.lo, Cells.lo, lo1, flP_succ (ga := ga) (l := l) (k := k) (by omega)]), rfl, by omega⟩
    omega
  ·clear hC18
   try simp at hc18
   refine swp_exit ?_
   simp [thn, inBlk]
   refine hK13 _ ?_; clear hK13
   refine swp_seq fun K48 hK48 => ?_
   have hke : k = l.length := (by omega)
   subst hke
   rw [flP_all]
   refine swp_frz [6] (ps := [.ro (.rows 1 ((l.map (flR ga)).map fun w => [PV.ro (.ints .i64 w)]))]) (is := [0]) (by simp [getT, getH, frzA, frz, frz1, Cells.len, Cells.pur, pur1]; try omega) ?_
   simp only [onL, kills, List.map_cons, List.map_nil, List.zip_cons_cons, List.zip_nil_left, List.zip_nil_right, List.cons_append, List.nil_append]
   refine swp_region ty_ok ?_
   refine runs_cut 3 fun R49 hR49 => ?_
   try simp (maxSteps := 1000000) [List.take_succ_cons, List.take_zero, List.drop_succ_cons, List.drop_zero]
   repeat' (first | apply And.intro | intro _)
   any_goals (first | (refine hR49 _ ?_; clear hR49) | omega | (simp_all <;> omega))
   refine runs_cut 1 fun R50 hR50 => ?_
   try simp (maxSteps := 1000000) [List.take_succ_cons, List.take_zero, List.drop_succ_cons, List.drop_zero]
   refine .inl ⟨_, hB, ?_⟩
   try simp (maxSteps := 1000000)
   repeat' (first | apply And.intro | intro _)
   any_goals (first | (refine hR50 _ ?_; clear hR50) | omega | (simp_all <;> omega))
   try simp (maxSteps := 1000000) [List.take_succ_cons, List.take_zero, List.drop_succ_cons, List.drop_zero]
   repeat' (first | apply And.intro | intro _)
   any_goals (first | (refine hK48 _ ?_; clear hK48) | omega | (simp_all <;> omega))
   refine swp_seq fun K51 hK51 => ?_
   refine swp_region ty_ok ?_
   try simp (maxSteps := 1000000)
   repeat' (first | apply And.intro | intro _)
   any_goals (first | (refine hK51 _ ?_; clear hK51) | omega | (simp_all <;> omega))
   refine swp_ret ?_
   simp [fnPost, Try.results6, resP, tupOf]
   cases hq : noL l l.length with
   | true => exact .inl rfl
   | false => exact .inr (by rw [hfl2 hq])

set_option maxHeartbeats 8000000 in
theorem scaleFlat_no (ga : Int) (hgi : -9223372036854775808 ≤ ga ∧ ga ≤ 9223372036854775807) (l : List (List Sc)) (hc : ¬ chS ga l (l.map (flR ga)) = 0) : PCall Try.prog 6 [.int .i64 ga, .ro (.rows 1 (l.map fun w => [.ro (.rows 2 (w.map Sc.row))]))] (.bool true) := by
 refine pcall_body ty_ok Try.func6 rfl (by rfl) (by simp) ?_
 rw [Try.ntmps6]
 refine swp_seq fun K1 hK1 => ?_
 refine swp_region ty_ok ?_
 try simp (maxSteps := 1000000)
 repeat' (first | apply And.intro | intro _)
 any_goals (first | (refine hK1 _ ?_; clear hK1) | omega | (simp_all <;> omega))
 refine swp_seq fun K2 hK2 => ?_
 refine swp_region ty_ok ?_
 refine runs_cut 1 fun R3 hR3 => ?_
 try simp (maxSteps := 1000000) [List.take_succ_cons, List.take_zero, List.drop_succ_cons, List.drop_zero]
 refine .inl ⟨_, alive20, ?_⟩
 try simp (maxSteps := 1000000)
 repeat' (first | apply And.intro | intro _)
 any_goals (first | (refine hR3 _ ?_; clear hR3) | omega | (simp_all <;> omega))
 try simp (maxSteps := 1000000) [List.take_succ_cons, List.take_zero, List.drop_succ_cons, List.drop_zero]
 repeat' (first | apply And.intro | intro _)
 any_goals (first | (refine hK2 _ ?_; clear hK2) | omega | (simp_all <;> omega))
 refine swp_seq fun K4 hK4 => ?_
 refine swp_seq fun K5 hK5 => ?_
 refine swp_region ty_ok ?_
 refine runs_cut 1 fun R6 hR6 => ?_
 try simp (maxSteps := 1000000) [List.take_succ_cons, List.take_zero, List.drop_succ_cons, List.drop_zero]
 repeat' (first | apply And.intro | intro _)
 any_goals (first | (refine hR6 _ ?_; clear hR6) | omega | (simp_all <;> omega))
 refine runs_cut 1 fun R7 hR7 => ?_
 try simp (maxSteps := 1000000) [List.take_succ_cons, List.take_zero, List.drop_succ_cons, List.drop_zero]
 refine .inl ⟨_, great19_ok l, ?_⟩
 try simp (maxSteps := 1000000)
 repeat' (first | apply And.intro | intro _)
 any_goals (first | (refine hR7 _ ?_; clear hR7) | omega | (simp_all <;> omega))
 try simp (maxSteps := 1000000) [List.take_succ_cons, List.take_zero, List.drop_succ_cons, List.drop_zero]
 repeat' (first | apply And.intro | intro _)
 any_goals (first | (refine hK5 _ ?_; clear hK5) | omega | (simp_all <;> omega))
 refine swp_if fun C8 hC8 => ?_
 try simp (maxSteps := 1000000)
 refine hC8 _ (fun hc8 => ?_) (fun hc8 => ?_)
 ·clear hC8
  try simp at hc8
  refine swp_seq fun K9 hK9 => ?_
  refine swp_region ty_ok ?_
  try simp (maxSteps := 1000000)
  repeat' (first | apply And.intro | intro _)
  any_goals (first | (refine hK9 _ ?_; clear hK9) | omega | (simp_all <;> omega))
  refine swp_ret ?_
  simp [fnPost, Try.results6, resP, tupOf]
 ·clear hC8
  try simp at hc8
  refine swp_skip ?_
  try simp only [thn, inBlk]
  refine hK4 _ ?_; clear hK4
  refine swp_seq fun K10 hK10 => ?_
  have hcc := hc8
  obtain ⟨hl1, hlw⟩ := grt_no (l := l) (by first | exact hcc.1 | exact hcc | simpa using hcc)
  have hctl := ctL_le hlw
  have hfl : (l.map (flR ga)).length = l.length := List.length_map ..
  have hB := put20_ok [] ga l (l.map (flR ga)) (by simp) (by omega) (fun w hw => by have := hlw w hw; omega) (by omega) (fun w hw => by
   rw [List.mem_map] at hw
   obtain ⟨v, hv, rfl⟩ := hw
   have h1 := flR_len ga v
   have h2 := hlw v hv
   omega)
  rw [if_neg hc, List.map_map] at hB
  refine swp_region ty_ok ?_
  try simp (maxSteps := 1000000)
  repeat' (first | apply And.intro | intro _)
  any_goals (first | (refine hK10 _ ?_; clear hK10) | omega | (simp_all <;> omega))
  refine swp_seq fun K11 hK11 => ?_
  refine swp_region ty_ok ?_
  try simp (maxSteps := 1000000)
  repeat' (first | apply And.intro | intro _)
  any_goals (first | (refine hK11 _ ?_; clear hK11) | omega | (simp_all <;> omega))
  refine swp_seq fun K12 hK12 => ?_
  refine swp_region ty_ok ?_
  try simp (maxSteps := 1000000)
  repeat' (first | apply And.intro | intro _)
  any_goals (first | (refine hK12 _ ?_; clear hK12) | omega | (simp_all <;> omega))
  refine swp_seq fun K13 hK13 => ?_
  refine swp_seq fun K14 hK14 => ?_
  refine swp_region ty_ok ?_
  try simp (maxSteps := 1000000)
  repeat' (first | apply And.intro | intro _)
  any_goals (first | (refine hK14 _ ?_; clear hK14) | omega | (simp_all <;> omega))
  refine swp_block ?_
  refine swp_own 6 23 (by simp [getT]; rfl) rfl ?_
  refine swp_loop 1 (fun m_ s_ => ∃ (k : Nat), (k ≤ l.length) ∧ s_ = ⟨[(0, .int .i64 ga), (1, .ro (.rows 1 (l.map fun w => [.ro (.rows 2 (w.map Sc.row))]))), (6, .sl 0 0 k k), (7, .int .i64 (ctL l k : Nat)), (8, .bool (noL l k)), (9, .int .i64 (k : Nat))], [(0, some ⟨.rows 1 (flP ga l k), false, 23⟩)], 1⟩ ∧ m_ = l.length - k) _ ⟨[(0, .int .i64 ga), (1, .ro (.rows 1 (l.map fun w => [.ro (.rows 2 (w.map Sc.row))]))), (6, .sl 0 0 0 0), (7, .int .i64 (ctL l 0 : Nat)), (8, .bool (noL l 0)), (9, .int .i64 (0 : Nat))], [(0, some ⟨.rows 1 (flP ga l 0), false, 23⟩)], 1⟩ ⟨by simp [getT, PV.lo, lo1, ctL, noL], by simp [getH, Blk.lo, Cells.lo, lo1, flP_0], rfl, by omega⟩ ⟨(0), by omega, rfl, rfl⟩ ?_
  rintro m_ s_ ⟨k, hL15_0, rfl, rfl⟩ KL15 hL15
  have hkw := wnext (i := k) (by omega)
  have hcr := flP_len (ga := ga) (l := l) (k := k) (by omega)
  refine swp_seq fun K16 hK16 => ?_
  refine swp_seq fun K17 hK17 => ?_
  refine swp_region ty_ok ?_
  try simp (maxSteps := 1000000)
  repeat' (first | apply And.intro | intro _)
  any_goals (first | (refine hK17 _ ?_; clear hK17) | omega | (simp_all <;> omega))
  refine swp_if fun C18 hC18 => ?_
  try simp (maxSteps := 1000000)
  refine hC18 _ (fun hc18 => ?_) (fun hc18 => ?_)
  ·clear hC18
   try simp at hc18
   refine swp_skip ?_
   try simp only [thn, inBlk]
   refine hK16 _ ?_; clear hK16
   refine swp_seq fun K19 hK19 => ?_
   refine swp_block ?_
   refine swp_seq fun K20 hK20 => ?_
   have hrowS := s_at (l := l) (k := k) (by omega)
   have hlk : (l[k]?.getD []).length ≤ 200 := hlw _ (mem_at (w := l) (j := k) (by omega))
   have hck := hctl k
   refine swp_region ty_ok ?_
   try simp (maxSteps := 1000000)
   repeat' (first | apply And.intro | intro _)
   any_goals (first | (refine hK20 _ ?_; clear hK20) | omega | (simp_all <;> omega))
   refine swp_seq fun K21 hK21 => ?_
   refine swp_seq fun K22 hK22 => ?_
   refine swp_region ty_ok ?_
   try simp (maxSteps := 1000000)
   repeat' (first | apply And.intro | intro _)
   any_goals (first | (refine hK22 _ ?_; clear hK22) | omega | (simp_all <;> omega))
   refine swp_block ?_
   refine swp_own 10 3 (by simp [getT]; rfl) rfl ?_
   refine swp_loop 2 (fun m_ s_ => ∃ (j : Nat), (j ≤ (l[k]?.getD []).length) ∧ s_ = ⟨[(0, .int .i64 ga), (1, .ro (.rows 1 (l.map fun w => [.ro (.rows 2 (w.map Sc.row))]))), (6, .sl 0 0 k k), (7, .int .i64 ((ctL l k + ctW ((l[k]?.getD []).take j)) : Nat)), (8, .bool (noL l k || noW ((l[k]?.getD []).take j))), (9, .int .i64 (k : Nat)), (10, .sl 1 0 (flR ga ((l[k]?.getD []).take j)).length (flR ga ((l[k]?.getD []).take j)).length), (11, .int .i64 (j : Nat))], [(0, some ⟨.rows 1 (flP ga l k), false, 23⟩), (1, some ⟨.ints .i64 (flR ga ((l[k]?.getD []).take j)), false, 3⟩)], 2⟩ ∧ m_ = (l[k]?.getD []).length - j) _ ⟨[(0, .int .i64 ga), (1, .ro (.rows 1 (l.map fun w => [.ro (.rows 2 (w.map Sc.row))]))), (6, .sl 0 0 k k), (7, .int .i64 ((ctL l k + ctW ((l[k]?.getD []).take 0)) : Nat)), (8, .bool (noL l k || noW ((l[k]?.getD []).take 0))), (9, .int .i64 (k : Nat)), (10, .sl 1 0 (flR ga ((l[k]?.getD []).take 0)).length (flR ga ((l[k]?.getD []).take 0)).length), (11, .int .i64 (0 : Nat))], [(0, some ⟨.rows 1 (flP ga l k), false, 23⟩), (1, some ⟨.ints .i64 (flR ga ((l[k]?.getD []).take 0)), false, 3⟩)], 2⟩ ⟨by simp [getT, PV.lo, lo1, flR, ctW, noW], by simp [getH, Blk.lo, Cells.lo, lo1, flR], rfl, by omega⟩ ⟨(0), by omega, rfl, rfl⟩ ?_
   rintro m_ s_ ⟨j, hL23_0, rfl, rfl⟩ KL23 hL23
   have hjw := wnext (i := j) (by omega)
   refine swp_seq fun K24 hK24 => ?_
   refine swp_seq fun K25 hK25 => ?_
   refine swp_region ty_ok ?_
   try simp (maxSteps := 1000000) [hrowS]
   repeat' (first | apply And.intro | intro _)
   any_goals (first | (refine hK25 _ ?_; clear hK25) | omega | (simp_all <;> omega))
   refine swp_if fun C26 hC26 => ?_
   try simp (maxSteps := 1000000) [hrowS]
   refine hC26 _ (fun hc26 => ?_) (fun hc26 => ?_)
   ·clear hC26
    try simp at hc26
    refine swp_skip ?_
    try simp only [thn, inBlk]
    refine hK24 _ ?_; clear hK24
    refine swp_seq fun K27 hK27 => ?_
    refine swp_block ?_
    refine swp_seq fun K28 hK28 => ?_
    have hri := sc_at (ws := (l[k]?.getD [])) (k := j) (by omega)
    have hfj := flR_len ga ((l[k]?.getD []).take j)
    have hcj := ctW_le ((l[k]?.getD []).take j)
    have htj : ((l[k]?.getD []).take j).length ≤ j := by simp; omega
    have hcap : capS ((l[k]?.getD [])[j]?.getD default) = min ((l[k]?.getD [])[j]?.getD default).len.toNat 1000 := rfl
    have hcle := capS_le ((l[k]?.getD [])[j]?.getD default)
    refine swp_region ty_ok ?_
    refine runs_cut 6 fun R29 hR29 => ?_
    try simp (maxSteps := 1000000) [hrowS, hri, List.take_succ_cons, List.take_zero, List.drop_succ_cons, List.drop_zero]
    repeat' (first | apply And.intro | intro _)
    any_goals (first | (refine hR29 _ ?_; clear hR29) | omega | (simp_all <;> omega))
    try simp (maxSteps := 1000000) [hrowS, hri, List.take_succ_cons, List.take_zero, List.drop_succ_cons, List.drop_zero]
    repeat' (first | apply And.intro | intro _)
    any_goals (first | (refine hK28 _ ?_; clear hK28) | omega | (simp_all <;> omega))
    refine swp_seq fun K30 hK30 => ?_
    refine swp_region ty_ok ?_
    try simp (maxSteps := 1000000)
    repeat' (first | apply And.intro | intro _)
    any_goals (first | (refine hK30 _ ?_; clear hK30) | omega | (simp_all <;> omega))
    refine swp_block ?_
    refine swp_loop 2 (fun m_ s_ => ∃ (c : Nat), (c ≤ capS ((l[k]?.getD [])[j]?.getD default)) ∧ s_ = ⟨[(0, .int .i64 ga), (1, .ro (.rows 1 (l.map fun w => [.ro (.rows 2 (w.map Sc.row))]))), (6, .sl 0 0 k k), (7, .int .i64 ((ctL l k + ctW ((l[k]?.getD []).take j) + ctS ((l[k]?.getD [])[j]?.getD default) c) : Nat)), (8, .bool ((noL l k || noW ((l[k]?.getD []).take j)) || decide (((l[k]?.getD [])[j]?.getD default).book = 13))), (9, .int .i64 (k : Nat)), (10, .sl 1 0 ((flR ga ((l[k]?.getD []).take j)).length + c) ((flR ga ((l[k]?.getD []).take j)).length + c)), (11, .int .i64 (j : Nat)), (12, .int .i64 (c : Nat))], [(0, some ⟨.rows 1 (flP ga l k), false, 23⟩), (1, some ⟨.ints .i64 (flR ga ((l[k]?.getD []).take j) ++ List.replicate c (valS ga ((l[k]?.getD [])[j]?.getD default))), false, 3⟩)], 2⟩ ∧ m_ = capS ((l[k]?.getD [])[j]?.getD default) - c) _ ⟨[(0, .int .i64 ga), (1, .ro (.rows 1 (l.map fun w => [.ro (.rows 2 (w.map Sc.row))]))), (6, .sl 0 0 k k), (7, .int .i64 ((ctL l k + ctW ((l[k]?.getD []).take j) + ctS ((l[k]?.getD [])[j]?.getD default) 0) : Nat)), (8, .bool ((noL l k || noW ((l[k]?.getD []).take j)) || decide (((l[k]?.getD [])[j]?.getD default).book = 13))), (9, .int .i64 (k : Nat)), (10, .sl 1 0 ((flR ga ((l[k]?.getD []).take j)).length + 0) ((flR ga ((l[k]?.getD []).take j)).length + 0)), (11, .int .i64 (j : Nat)), (12, .int .i64 (0 : Nat))], [(0, some ⟨.rows 1 (flP ga l k), false, 23⟩), (1, some ⟨.ints .i64 (flR ga ((l[k]?.getD []).take j) ++ List.replicate 0 (valS ga ((l[k]?.getD [])[j]?.getD default))), false, 3⟩)], 2⟩ ⟨by simp [getT, PV.lo, lo1, ctS], by simp [getH, Blk.lo, Cells.lo, lo1], rfl, by omega⟩ ⟨(0), by omega, rfl, rfl⟩ ?_
    rintro m_ s_ ⟨c, hL31_0, rfl, rfl⟩ KL31 hL31
    have hcw := wnext (i := c) (by omega)
    refine swp_seq fun K32 hK32 => ?_
    refine swp_seq fun K33 hK33 => ?_
    refine swp_region ty_ok ?_
    refine runs_cut 7 fun R34 hR34 => ?_
    try simp (maxSteps := 1000000) [hrowS, hri, List.take_succ_cons, List.take_zero, List.drop_succ_cons, List.drop_zero]
    repeat' (first | apply And.intro | intro _)
    any_goals (first | (refine hR34 _ ?_; clear hR34) | omega | (simp_all <;> omega))
    try simp (maxSteps := 1000000) [hrowS, hri, List.take_succ_cons, List.take_zero, List.drop_succ_cons, List.drop_zero]
    repeat' (first | apply And.intro | intro _)
    any_goals (first | (refine hK33 _ ?_; clear hK33) | omega | (simp_all <;> omega))
    refine swp_if fun C35 hC35 => ?_
    try simp (maxSteps := 1000000) [hrowS, hri]
    refine hC35 _ (fun hc35 => ?_) (fun hc35 => ?_)
    ·clear hC35
     try simp at hc35
     refine swp_skip ?_
     try simp only [thn, inBlk]
     refine hK32 _ ?_; clear hK32
     refine swp_seq fun K36 hK36 => ?_
     refine swp_block ?_
     refine swp_seq fun K37 hK37 => ?_
     refine swp_seq fun K38 hK38 => ?_
     have hsl := ctS_le ((l[k]?.getD [])[j]?.getD default) c
     refine swp_region ty_ok ?_
     try simp (maxSteps := 1000000) [hrowS, hri]
     repeat' (first | apply And.intro | intro _)
     any_goals (first | (refine hK38 _ ?_; clear hK38) | omega | (simp_all <;> omega))
     refine swp_if fun C39 hC39 => ?_
     try simp (maxSteps := 1000000) [hrowS, hri]
     refine hC39 _ (fun hc39 => ?_) (fun hc39 => ?_)
     ·clear hC39
      try simp at hc39
      refine swp_seq fun K40 hK40 => ?_
      have hz : ((l[k]?.getD [])[j]?.getD default).book = 0 := hc39
      have hv : valS ga ((l[k]?.getD [])[j]?.getD default) = 0 := if_pos hz
      have hct : ∀ n, ctS ((l[k]?.getD [])[j]?.getD default) n = 0 := fun n => if_pos hz
      refine swp_region ty_ok ?_
      refine runs_cut 1 fun R41 hR41 => ?_
      try simp (maxSteps := 1000000) [List.take_succ_cons, List.take_zero, List.drop_succ_cons, List.drop_zero]
      repeat' (first | apply And.intro | intro _)
      any_goals (first | (refine hR41 _ ?_; clear hR41) | omega | (simp_all <;> omega))
      refine runs_cut 1 fun R42 hR42 => ?_
      try simp (maxSteps := 1000000) [List.take_succ_cons, List.take_zero, List.drop_succ_cons, List.drop_zero]
      repeat' (first | apply And.intro | intro _)
      any_goals (first | (refine Or.inl (hR42 _ ?_); clear hR42) | omega | (simp_all <;> omega))
      try simp (maxSteps := 1000000) [List.take_succ_cons, List.take_zero, List.drop_succ_cons, List.drop_zero]
      repeat' (first | apply And.intro | intro _)
      any_goals (first | (refine hK40 _ ?_; clear hK40) | omega | (simp_all <;> omega))
      refine swp_exit ?_
      simp [thn, inBlk]
      refine hK36 _ ?_; clear hK36
      refine swp_region ty_ok ?_
      try simp (maxSteps := 1000000)
      repeat' apply And.intro
      any_goals (try omega)
      refine hL31 _ ⟨[(0, .int .i64 ga), (1, .ro (.rows 1 (l.map fun w => [.ro (.rows 2 (w.map Sc.row))]))), (6, .sl 0 0 k k), (7, .int .i64 ((ctL l k + ctW ((l[k]?.getD []).take j) + ctS ((l[k]?.getD [])[j]?.getD default) (c + 1)) : Nat)), (8, .bool ((noL l k || noW ((l[k]?.getD []).take j)) || decide (((l[k]?.getD [])[j]?.getD default).book = 13))), (9, .int .i64 (k : Nat)), (10, .sl 1 0 ((flR ga ((l[k]?.getD []).take j)).length + (c + 1)) ((flR ga ((l[k]?.getD []).take j)).length + (c + 1))), (11, .int .i64 (j : Nat)), (12, .int .i64 ((c + 1) : Nat))], [(0, some ⟨.rows 1 (flP ga l k), false, 23⟩), (1, some ⟨.ints .i64 (flR ga ((l[k]?.getD []).take j) ++ List.replicate (c + 1) (valS ga ((l[k]?.getD [])[j]?.getD default))), false, 3⟩)], 2⟩ _ ?_ ⟨(c + 1), by omega, rfl, rfl⟩ ⟨by (simp [getT, PV.lo, lo1, hcw, hct]; first | done | omega | (refine ⟨?_, by omega⟩; rw [w64 (by omega)]; omega)), by simp [getH, Blk.lo, Cells.lo, lo1, List.replicate_succ', hv], rfl, by omega⟩
      omega
     ·clear hC39
      try simp at hc39
      refine swp_skip ?_
      try simp only [thn, inBlk]
      refine hK37 _ ?_; clear hK37
      refine swp_seq fun K43 hK43 => ?_
      have hz : ¬ ((l[k]?.getD [])[j]?.getD default).book = 0 := hc39
      have hv : valS ga ((l[k]?.getD [])[j]?.getD default) = ga := if_neg hz
      have hct : ∀ n, ctS ((l[k]?.getD [])[j]?.getD default) n = n := fun n => if_neg hz
      rw [hct] at hsl
      have hsm : IntKind.i64.wrap (((ctL l k + ctW ((l[k]?.getD []).take j) + ctS ((l[k]?.getD [])[j]?.getD default) c : Nat) : Int) + 1) = ((ctL l k + ctW ((l[k]?.getD []).take j) + ctS ((l[k]?.getD [])[j]?.getD default) (c + 1) : Nat) : Int) := by rw [hct, hct]; exact wnext (by omega)
      refine swp_region ty_ok ?_
      refine runs_cut 2 fun R44 hR44 => ?_
      try simp (maxSteps := 1000000) [List.take_succ_cons, List.take_zero, List.drop_succ_cons, List.drop_zero]
      repeat' (first | apply And.intro | intro _)
      any_goals (first | (refine hR44 _ ?_; clear hR44) | omega | (simp_all <;> omega))
      refine runs_cut 1 fun R45 hR45 => ?_
      try simp (maxSteps := 1000000) [List.take_succ_cons, List.take_zero, List.drop_succ_cons, List.drop_zero]
      repeat' (first | apply And.intro | intro _)
      any_goals (first | (refine Or.inl (hR45 _ ?_); clear hR45) | omega | (simp_all <;> omega))
      try simp (maxSteps := 1000000) [List.take_succ_cons, List.take_zero, List.drop_succ_cons, List.drop_zero]
      repeat' (first | apply And.intro | intro _)
      any_goals (first | (refine hK43 _ ?_; clear hK43) | omega | (simp_all <;> omega))
      refine swp_region ty_ok ?_
      try simp (maxSteps := 1000000) [hsm]
      repeat' (first | apply And.intro | intro _)
      any_goals (first | (refine hK36 _ ?_; clear hK36) | omega | (simp_all <;> omega))
      refine swp_region ty_ok ?_
      try simp (maxSteps := 1000000)
      repeat' apply And.intro
      any_goals (try omega)
      refine hL31 _ ⟨[(0, .int .i64 ga), (1, .ro (.rows 1 (l.map fun w => [.ro (.rows 2 (w.map Sc.row))]))), (6, .sl 0 0 k k), (7, .int .i64 ((ctL l k + ctW ((l[k]?.getD []).take j) + ctS ((l[k]?.getD [])[j]?.getD default) (c + 1)) : Nat)), (8, .bool ((noL l k || noW ((l[k]?.getD []).take j)) || decide (((l[k]?.getD [])[j]?.getD default).book = 13))), (9, .int .i64 (k : Nat)), (10, .sl 1 0 ((flR ga ((l[k]?.getD []).take j)).length + (c + 1)) ((flR ga ((l[k]?.getD []).take j)).length + (c + 1))), (11, .int .i64 (j : Nat)), (12, .int .i64 ((c + 1) : Nat))], [(0, some ⟨.rows 1 (flP ga l k), false, 23⟩), (1, some ⟨.ints .i64 (flR ga ((l[k]?.getD []).take j) ++ List.replicate (c + 1) (valS ga ((l[k]?.getD [])[j]?.getD default))), false, 3⟩)], 2⟩ _ ?_ ⟨(c + 1), by omega, rfl, rfl⟩ ⟨by (simp [getT, PV.lo, lo1, hcw, hct]; first | done | omega | (refine ⟨?_, by omega⟩; rw [w64 (by omega)]; omega)), by simp [getH, Blk.lo, Cells.lo, lo1, List.replicate_succ', hv], rfl, by omega⟩
      omega
    ·clear hC35
     try simp at hc35
     refine swp_exit ?_
     simp [thn, inBlk]
     refine hK27 _ ?_; clear hK27
     refine swp_region ty_ok ?_
     try simp (maxSteps := 1000000)
     repeat' apply And.intro
     any_goals (try omega)
     refine hL23 _ ⟨[(0, .int .i64 ga), (1, .ro (.rows 1 (l.map fun w => [.ro (.rows 2 (w.map Sc.row))]))), (6, .sl 0 0 k k), (7, .int .i64 ((ctL l k + ctW ((l[k]?.getD []).take (j + 1))) : Nat)), (8, .bool (noL l k || noW ((l[k]?.getD []).take (j + 1)))), (9, .int .i64 (k : Nat)), (10, .sl 1 0 (flR ga ((l[k]?.getD []).take (j + 1))).length (flR ga ((l[k]?.getD []).take (j + 1))).length), (11, .int .i64 ((j + 1) : Nat))], [(0, some ⟨.rows 1 (flP ga l k), false, 23⟩), (1, some ⟨.ints .i64 (flR ga ((l[k]?.getD []).take (j + 1))), false, 3⟩)], 2⟩ _ ?_ ⟨(j + 1), by omega, rfl, rfl⟩ ⟨by (have hce : c = capS ((l[k]?.getD [])[j]?.getD default) := (by omega); subst hce; simp [getT, PV.lo, lo1, hjw, flR_succ (ga := ga) (w := (l[k]?.getD [])) (j := j) (by omega), ctW_succ (w := (l[k]?.getD [])) (j := j) (by omega), noW_succ (w := (l[k]?.getD [])) (j := j) (by omega)]; exact ⟨by omega, Bool.or_assoc ..⟩), by (have hce : c = capS ((l[k]?.getD [])[j]?.getD default) := (by omega); subst hce; simp [getH, Blk.lo, Cells.lo, lo1, flR_succ (ga := ga) (w := (l[k]?.getD [])) (j := j) (by omega)]), rfl, by omega⟩
     omega
   ·clear hC26
    try simp at hc26
    refine swp_exit ?_
    simp [thn, inBlk]
    refine hK21 _ ?_; clear hK21
    refine swp_region ty_ok ?_
    refine runs_cut 2 fun R46 hR46 => ?_
    try simp (maxSteps := 1000000) [List.take_succ_cons, List.take_zero, List.drop_succ_cons, List.drop_zero]
    repeat' (first | apply And.intro | intro _)
    any_goals (first | (refine hR46 _ ?_; clear hR46) | omega | (simp_all <;> omega))
    refine runs_cut 1 fun R47 hR47 => ?_
    try simp (maxSteps := 1000000) [List.take_succ_cons, List.take_zero, List.drop_succ_cons, List.drop_zero]
    repeat' (first | apply And.intro | intro _)
    any_goals (first | (refine Or.inl (hR47 _ ?_); clear hR47) | omega | (simp_all <;> omega))
    try simp (maxSteps := 1000000) [List.take_succ_cons, List.take_zero, List.drop_succ_cons, List.drop_zero]
    repeat' (first | apply And.intro | intro _)
    any_goals (first | (refine hK19 _ ?_; clear hK19) | omega | (simp_all <;> omega))
    refine swp_region ty_ok ?_
    try simp (maxSteps := 1000000)
    repeat' apply And.intro
    any_goals (try omega)
    refine hL15 _ ⟨[(0, .int .i64 ga), (1, .ro (.rows 1 (l.map fun w => [.ro (.rows 2 (w.map Sc.row))]))), (6, .sl 0 0 (k + 1) (k + 1)), (7, .int .i64 (ctL l (k + 1) : Nat)), (8, .bool (noL l (k + 1))), (9, .int .i64 ((k + 1) : Nat))], [(0, some ⟨.rows 1 (flP ga l (k + 1)), false, 23⟩)], 1⟩ _ ?_ ⟨(k + 1), by omega, rfl, rfl⟩ ⟨by (have hje : j = (l[k]?.getD []).length := (by omega); subst hje; simp [getT, PV.lo, lo1, hkw, ctL_succ (l := l) (k := k) (by omega), noL_succ (l := l) (k := k) (by omega)]), by (have hje : j = (l[k]?.getD []).length := (by omega); subst hje; simp [getH, Blk.lo, Cells.lo, lo1, flP_succ (ga := ga) (l := l) (k := k) (by omega)]), rfl, by omega⟩
    omega
  ·clear hC18
   try simp at hc18
   refine swp_exit ?_
   simp [thn, inBlk]
   refine hK13 _ ?_; clear hK13
   refine swp_seq fun K48 hK48 => ?_
   have hke : k = l.length := (by omega)
   subst hke
   rw [flP_all]
   refine swp_frz [6] (ps := [.ro (.rows 1 ((l.map (flR ga)).map fun w => [PV.ro (.ints .i64 w)]))]) (is := [0]) (by simp [getT, getH, frzA, frz, frz1, Cells.len, Cells.pur, pur1]; try omega) ?_
   simp only [onL, kills, List.map_cons, List.map_nil, List.zip_cons_cons, List.zip_nil_left, List.zip_nil_right, List.cons_append, List.nil_append]
   refine swp_region ty_ok ?_
   refine runs_cut 3 fun R49 hR49 => ?_
   try simp (maxSteps := 1000000) [List.take_succ_cons, List.take_zero, List.drop_succ_cons, List.drop_zero]
   repeat' (first | apply And.intro | intro _)
   any_goals (first | (refine hR49 _ ?_; clear hR49) | omega | (simp_all <;> omega))
   refine runs_cut 1 fun R50 hR50 => ?_
   try simp (maxSteps := 1000000) [List.take_succ_cons, List.take_zero, List.drop_succ_cons, List.drop_zero]
   refine .inl ⟨_, hB, ?_⟩
   try simp (maxSteps := 1000000)
   repeat' (first | apply And.intro | intro _)
   any_goals (first | (refine hR50 _ ?_; clear hR50) | omega | (simp_all <;> omega))
   try simp (maxSteps := 1000000) [List.take_succ_cons, List.take_zero, List.drop_succ_cons, List.drop_zero]
   repeat' (first | apply And.intro | intro _)
   any_goals (first | (refine hK48 _ ?_; clear hK48) | omega | (simp_all <;> omega))
   refine swp_seq fun K51 hK51 => ?_
   refine swp_region ty_ok ?_
   try simp (maxSteps := 1000000)
   repeat' (first | apply And.intro | intro _)
   any_goals (first | (refine hK51 _ ?_; clear hK51) | omega | (simp_all <;> omega))
   refine swp_ret ?_
   simp [fnPost, Try.results6, resP, tupOf]
   exact .inl (.inl hc)

end Go.Proofs.Ytgheplondkoedaa

