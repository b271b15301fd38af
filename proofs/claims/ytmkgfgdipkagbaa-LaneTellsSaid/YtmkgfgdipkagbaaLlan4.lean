import Derived.Test.YtmkgfgdipkagbaaWb
import Derived.Test.YtmkgfgdipkagbaaTyl
import Derived.Test.YtmkgfgdipkagbaaPvy
import Derived.Test.YtmkgfgdipkagbaaLband
import Derived.Test.YtmkgfgdipkagbaaLinfo
import Derived.Test.YtmkgfgdipkagbaaLinfo2
import Derived.Test.YtmkgfgdipkagbaaLbits
import Derived.Test.YtmkgfgdipkagbaaLtns
import Derived.Test.YtmkgfgdipkagbaaLtnp
import Derived.Test.YtmkgfgdipkagbaaLtnl
import Derived.Test.YtmkgfgdipkagbaaLlan
import Derived.Test.YtmkgfgdipkagbaaLlan2
import Derived.Test.YtmkgfgdipkagbaaLlan3
namespace Go.Proofs.Ytmkgfgdipkagbaa
set_option linter.unusedVariables false
set_option linter.unusedSimpArgs false
set_option maxRecDepth 10000
open Go Go.Pv


open Go.RowKit
def zL : List Int := List.replicate 256 0
theorem zL_eq : List.replicate 256 (0 : Int) = zL := rfl
theorem zL_len : zL.length = 256 := by rw [zL, List.length_replicate]
def srZ (m : Int) : List Sc := if 0 < m then [⟨0, m⟩] else []
def seZ (m : Int) (k : Nat) : List (List Sc) := List.replicate k (srZ m)
def stZ (m : Int) (k : Nat) : List (List Int) := List.replicate k (List.replicate m.toNat 0)
def tnZ (n : Int) : List (List Fl) := List.replicate n.toNat []
theorem seZ_succ (m : Int) (k : Nat) : seZ m (k + 1) = seZ m k ++ [srZ m] := List.replicate_succ'
theorem stZ_succ (m : Int) (k : Nat) : stZ m (k + 1) = stZ m k ++ [List.replicate m.toNat 0] := List.replicate_succ'
theorem tnZ_map (n : Int) : (tnZ n).map (fun w => [PV.ro (.rows 5 (w.map Fl.row))]) = List.replicate n.toNat [PV.ro (.rows 5 [])] := by
  unfold tnZ
  rw [List.map_replicate]
  rfl
theorem seZ_len (m : Int) (k : Nat) : (seZ m k).length = k := List.length_replicate
theorem stZ_len (m : Int) (k : Nat) : (stZ m k).length = k := List.length_replicate
theorem offs41 : ∀ a : Fin 12, ∀ s : Bool, (offs (a.val : Int) s).length ≤ 41 := by decide +kernel
theorem MB40 (rate : Int) (s : Bool) : MB rate s ≤ 40 := by
  unfold MB
  split
  · omega
  · have := offs41 ⟨rate.toNat, by omega⟩ s
    simp only [show ((rate.toNat : Nat) : Int) = rate by omega] at this
    omega
theorem zero_len {s sh m : Int} {g : List Int} (hg : g.length ≤ 1000) (hm : m ≤ 40) (hw : winI s sh m g = 8 ∨ winI s sh m g = 1) : LenOk g (seZ m g.length) (stZ m g.length) (tnZ (winI s sh m g)) := by
  refine ⟨⟨hg, by rw [seZ_len]; exact hg, by rw [stZ_len]; exact hg, by unfold tnZ; rw [List.length_replicate]; omega⟩, fun w hw => ?_, fun w hw => ?_, fun w hw => ?_⟩
  · rw [(List.mem_replicate.1 hw).2]
    unfold srZ
    split <;> simp
  · rw [(List.mem_replicate.1 hw).2, List.length_replicate]
    omega
  · rw [(List.mem_replicate.1 hw).2]
    exact ⟨by simp, by simp⟩
attribute [local simp] runs gd step1 need evu un opnds opv ev cst cst1 cstL getT getH putT onL nxt argT cellsOf PV.one thn inBlk jmp fldP ldP ldC live Cells.len Cells.get Cells.w sug ldv bin eqF eq1 ops2 sh2 binv Tk.agg stC apC rdS apS mvL zp argsP idx fillP toInts chunks mkC ixS ixA oidx slP sl0 mxF bltn frzA frz frzL frz1 pur1 Cells.pur PV.scal scal1 runD rdO PV.ids id1 zids ety Eff.on cnd minb and1b ifmax ifmin mxv sugI strv w0 w1 w2 wm1
theorem clone_ip (xs : List Int) (hx : xs.length ≤ 17592186043000) : PCall Try.prog 39 [.ro (.ints .i64 xs)] (.ro (.ints .i64 xs)) := by
  refine pcall_body ty_ok Try.func39 rfl (by rfl) (by simp) ?_
  rw [Try.ntmps39]
  refine swp_seq fun K1 hK1 => ?_
  refine swp_region ty_ok ?_
  try simp (maxSteps := 1000000)
  repeat' (first | apply And.intro | intro _)
  any_goals (first | (refine hK1 _ ?_; clear hK1) | (first | omega | (simp only [IntKind.wrap_i64] at *; omega) | (simp_all; done) | (simp_all; omega)))
  refine swp_seq fun K2 hK2 => ?_
  refine swp_seq fun K3 hK3 => ?_
  refine swp_isnil ty_ok (t := 22) (e := 3) (d := 3) (b := 4) rfl rfl (by simp [ev, getT]; rfl) (by omega) (by omega) (fun v hv => ?_) ⟨rfl, rfl, rfl, rfl⟩ ⟨rfl, rfl, rfl⟩
  simp only [thn, inBlk]
  refine hK3 _ ?_; clear hK3
  refine swp_if fun C4 hC4 => ?_
  try simp (maxSteps := 1000000)
  refine hC4 _ (fun hc4 => ?_) (fun hc4 => ?_)
  · clear hC4
    try simp at hc4
    refine swp_seq fun K5 hK5 => ?_
    refine swp_region ty_ok ?_
    try simp (maxSteps := 1000000)
    repeat' (first | apply And.intro | intro _)
    any_goals (first | (refine hK5 _ ?_; clear hK5) | (first | omega | (simp only [IntKind.wrap_i64] at *; omega) | (simp_all; done) | (simp_all; omega)))
    refine swp_own 2 3 (by simp [getT]; rfl) rfl ?_
    refine swp_ret ?_
    simp [fnPost, Try.results39, resP, tupOf]
    exact List.eq_nil_of_length_eq_zero (hv (by assumption))
  · clear hC4
    try simp at hc4
    refine swp_skip ?_
    simp only [thn, inBlk]
    refine hK2 _ ?_; clear hK2
    refine swp_seq fun K6 hK6 => ?_
    refine swp_region ty_ok ?_
    refine runs_cut 1 fun R7 hR7 => ?_
    try simp (maxSteps := 1000000) [List.take_succ_cons, List.take_zero, List.drop_succ_cons, List.drop_zero]
    repeat' (first | apply And.intro | intro _)
    any_goals (first | (refine Or.inr (hR7 _ ?_); clear hR7) | (first | omega | (simp only [IntKind.wrap_i64] at *; omega) | (simp_all; done) | (simp_all; omega)))
    try simp (maxSteps := 1000000) [List.take_succ_cons, List.take_zero, List.drop_succ_cons, List.drop_zero]
    repeat' (first | apply And.intro | intro _)
    any_goals (first | (refine hK6 _ ?_; clear hK6) | (first | omega | (simp only [IntKind.wrap_i64] at *; omega) | (simp_all; done) | (simp_all; omega)))
    refine swp_ret ?_
    simp [fnPost, Try.results39, resP, tupOf]

theorem twin_P (s sh m : Int) (g : List Int) (hx : g.length ≤ 17592186043000) : PCall Try.prog 35 [.agg [.int .u8 s, .int .u8 sh, .int .i64 m, .ro (.ints .i64 g)]] (.agg [.int .u8 s, .int .u8 sh, .int .i64 m, .ro (.ints .i64 g)]) := by
  refine pcall_body ty_ok Try.func35 rfl (by rfl) (by simp) ?_
  rw [Try.ntmps35]
  refine swp_seq fun K1 hK1 => ?_
  refine swp_region ty_ok ?_
  try simp (maxSteps := 1000000)
  repeat' (first | apply And.intro | intro _)
  any_goals (first | (refine hK1 _ ?_; clear hK1) | (first | omega | (simp only [IntKind.wrap_i64] at *; omega) | (simp_all; done) | (simp_all; omega)))
  refine swp_seq fun K2 hK2 => ?_
  refine swp_region ty_ok ?_
  refine runs_cut 2 fun R3 hR3 => ?_
  try simp (maxSteps := 1000000) [List.take_succ_cons, List.take_zero, List.drop_succ_cons, List.drop_zero]
  repeat' (first | apply And.intro | intro _)
  any_goals (first | (refine hR3 _ ?_; clear hR3) | (first | omega | (simp only [IntKind.wrap_i64] at *; omega) | (simp_all; done) | (simp_all; omega)))
  refine runs_cut 1 fun R4 hR4 => ?_
  try simp (maxSteps := 1000000) [List.take_succ_cons, List.take_zero, List.drop_succ_cons, List.drop_zero]
  refine .inl ⟨_, clone_ip g hx, ?_⟩
  try simp (maxSteps := 1000000)
  repeat' (first | apply And.intro | intro _)
  any_goals (first | (refine hR4 _ ?_; clear hR4) | (first | omega | (simp only [IntKind.wrap_i64] at *; omega) | (simp_all; done) | (simp_all; omega)))
  try simp (maxSteps := 1000000) [List.take_succ_cons, List.take_zero, List.drop_succ_cons, List.drop_zero]
  repeat' (first | apply And.intro | intro _)
  any_goals (first | (refine hK2 _ ?_; clear hK2) | (first | omega | (simp only [IntKind.wrap_i64] at *; omega) | (simp_all; done) | (simp_all; omega)))
  refine swp_seq fun K5 hK5 => ?_
  refine swp_region ty_ok ?_
  try simp (maxSteps := 1000000)
  repeat' (first | apply And.intro | intro _)
  any_goals (first | (refine hK5 _ ?_; clear hK5) | (first | omega | (simp only [IntKind.wrap_i64] at *; omega) | (simp_all; done) | (simp_all; omega)))
  refine swp_ret ?_
  simp [fnPost, Try.results35, resP, tupOf]

set_option maxHeartbeats 4000000 in
theorem zero_P (rate s sh m : Int) (g : List Int) (hs0 : (0 ≤ s ∧ s ≤ 255) ∧ 0 ≤ sh ∧ sh ≤ 255) (hx : g.length ≤ 1000) (hz : chI rate s sh m g = 0) : PCall Try.prog 28 [.int .i64 rate, .agg [.int .u8 s, .int .u8 sh, .int .i64 m, .ro (.ints .i64 g)]] (.tup [.agg [.int .i64 0, .int .u8 s, .int .u8 sh, .int .i64 m, .ro (.ints .i64 g), .ro (.rows 1 ((seZ m g.length).map fun w => [PV.ro (.rows 2 (w.map Sc.row))])), .ro (.rows 1 ((stZ m g.length).map fun w => [PV.ro (.ints .i64 w)])), .ro (.rows 1 ((tnZ (winI s sh m g)).map fun w => [PV.ro (.rows 5 (w.map Fl.row))])), .ro (.ints .i64 zL)], .int .i64 0]) := by
  obtain ⟨hr, hs3, hsh, hm0, hmM, hok, hmay, hm11⟩ := chI_zero hz
  have hM1 := MB_bd rate (decide (s = 2))
  have hwn := (may_pos hm11).2.2
  refine pcall_body ty_ok Try.func28 rfl (by rfl) (by simp) ?_
  rw [Try.ntmps28]
  refine swp_seq fun K1 hK1 => ?_
  refine swp_region ty_ok ?_
  try simp (maxSteps := 1000000) [zL_eq, zL_len, seZ_len, stZ_len]
  repeat' (first | apply And.intro | intro _)
  any_goals (first | (refine hK1 _ ?_; clear hK1) | (first | omega | (simp only [IntKind.wrap_i64] at *; omega) | (simp_all; done) | (simp_all; omega)))
  refine swp_seq fun K2 hK2 => ?_
  refine swp_seq fun K3 hK3 => ?_
  refine swp_region ty_ok ?_
  refine runs_cut 2 fun R4 hR4 => ?_
  try simp (maxSteps := 1000000) [zL_eq, zL_len, seZ_len, stZ_len, List.take_succ_cons, List.take_zero, List.drop_succ_cons, List.drop_zero]
  repeat' (first | apply And.intro | intro _)
  any_goals (first | (refine hR4 _ ?_; clear hR4) | (first | omega | (simp only [IntKind.wrap_i64] at *; omega) | (simp_all; done) | (simp_all; omega)))
  refine runs_cut 1 fun R5 hR5 => ?_
  try simp (maxSteps := 1000000) [zL_eq, zL_len, seZ_len, stZ_len, List.take_succ_cons, List.take_zero, List.drop_succ_cons, List.drop_zero]
  refine .inl ⟨_, (by have h := info_Check_ok rate s sh m g (by omega); rw [hz] at h; exact h), ?_⟩
  try simp (maxSteps := 1000000) [zL_eq, zL_len, seZ_len, stZ_len]
  repeat' (first | apply And.intro | intro _)
  any_goals (first | (refine hR5 _ ?_; clear hR5) | (first | omega | (simp only [IntKind.wrap_i64] at *; omega) | (simp_all; done) | (simp_all; omega)))
  try simp (maxSteps := 1000000) [zL_eq, zL_len, seZ_len, stZ_len, List.take_succ_cons, List.take_zero, List.drop_succ_cons, List.drop_zero]
  repeat' (first | apply And.intro | intro _)
  any_goals (first | (refine hK3 _ ?_; clear hK3) | (first | omega | (simp only [IntKind.wrap_i64] at *; omega) | (simp_all; done) | (simp_all; omega)))
  refine swp_seq fun K6 hK6 => ?_
  refine swp_region ty_ok ?_
  try simp (maxSteps := 1000000) [zL_eq, zL_len, seZ_len, stZ_len]
  repeat' (first | apply And.intro | intro _)
  any_goals (first | (refine hK6 _ ?_; clear hK6) | (first | omega | (simp only [IntKind.wrap_i64] at *; omega) | (simp_all; done) | (simp_all; omega)))
  refine swp_if fun C7 hC7 => ?_
  try simp (maxSteps := 1000000) [zL_eq, zL_len, seZ_len, stZ_len]
  refine hC7 _ (fun hc7 => ?_) (fun hc7 => ?_)
  · exact absurd hc7 (by simp)
  · clear hC7
    try simp at hc7
    refine swp_skip ?_
    simp only [thn, inBlk]
    refine hK2 _ ?_; clear hK2
    refine swp_seq fun K8 hK8 => ?_
    refine swp_region ty_ok ?_
    refine runs_cut 1 fun R9 hR9 => ?_
    try simp (maxSteps := 1000000) [zL_eq, zL_len, seZ_len, stZ_len, List.take_succ_cons, List.take_zero, List.drop_succ_cons, List.drop_zero]
    repeat' (first | apply And.intro | intro _)
    any_goals (first | (refine hR9 _ ?_; clear hR9) | (first | omega | (simp only [IntKind.wrap_i64] at *; omega) | (simp_all; done) | (simp_all; omega)))
    refine runs_cut 1 fun R10 hR10 => ?_
    try simp (maxSteps := 1000000) [zL_eq, zL_len, seZ_len, stZ_len, List.take_succ_cons, List.take_zero, List.drop_succ_cons, List.drop_zero]
    refine .inl ⟨_, info_Windows_ok s sh m g (by omega), ?_⟩
    try simp (maxSteps := 1000000) [zL_eq, zL_len, seZ_len, stZ_len]
    repeat' (first | apply And.intro | intro _)
    any_goals (first | (refine hR10 _ ?_; clear hR10) | (first | omega | (simp only [IntKind.wrap_i64] at *; omega) | (simp_all; done) | (simp_all; omega)))
    try simp (maxSteps := 1000000) [zL_eq, zL_len, seZ_len, stZ_len, List.take_succ_cons, List.take_zero, List.drop_succ_cons, List.drop_zero]
    repeat' (first | apply And.intro | intro _)
    any_goals (first | (refine hK8 _ ?_; clear hK8) | (first | omega | (simp only [IntKind.wrap_i64] at *; omega) | (simp_all; done) | (simp_all; omega)))
    refine swp_seq fun K11 hK11 => ?_
    refine swp_draw ty_ok mixed (ms := [0, 1, 0, 4, 0, 31, 0, 127]) (by kernel_rfl) ?_
    refine runD_cut 1 fun R12 hR12 => ?_
    try simp (maxSteps := 1000000) [zL_eq, zL_len, seZ_len, stZ_len, List.take_succ_cons, List.take_zero, List.drop_succ_cons, List.drop_zero]
    repeat' (first | apply And.intro | intro _)
    any_goals (first | (refine hR12 _ _ _ _ ?_; clear hR12) | (first | omega | (simp only [IntKind.wrap_i64] at *; omega) | (simp_all; done) | (simp_all; omega)))
    refine runD_cut 1 fun R13 hR13 => ?_
    try simp (maxSteps := 1000000) [zL_eq, zL_len, seZ_len, stZ_len, List.take_succ_cons, List.take_zero, List.drop_succ_cons, List.drop_zero]
    refine .inl ⟨_, twin_P s sh m g (by omega), ?_⟩
    try simp (maxSteps := 1000000) [zL_eq, zL_len, seZ_len, stZ_len]
    repeat' (first | apply And.intro | intro _)
    any_goals (first | (refine hR13 _ _ _ _ ?_; clear hR13) | (first | omega | (simp only [IntKind.wrap_i64] at *; omega) | (simp_all; done) | (simp_all; omega)))
    refine runD_cut 1 fun R14 hR14 => ?_
    try simp (maxSteps := 1000000) [zL_eq, zL_len, seZ_len, stZ_len, List.take_succ_cons, List.take_zero, List.drop_succ_cons, List.drop_zero]
    repeat' (first | apply And.intro | intro _)
    any_goals (first | (refine hR14 _ _ _ _ ?_; clear hR14) | (first | omega | (simp only [IntKind.wrap_i64] at *; omega) | (simp_all; done) | (simp_all; omega)))
    refine runD_cut 1 fun R15 hR15 => ?_
    try simp (maxSteps := 1000000) [zL_eq, zL_len, seZ_len, stZ_len, List.take_succ_cons, List.take_zero, List.drop_succ_cons, List.drop_zero]
    repeat' (first | apply And.intro | intro _)
    any_goals (first | (refine Or.inl (hR15 _ _ _ _ ?_); clear hR15) | (first | omega | (simp only [IntKind.wrap_i64] at *; omega) | (simp_all; done) | (simp_all; omega)))
    refine runD_cut 1 fun R16 hR16 => ?_
    try simp (maxSteps := 1000000) [zL_eq, zL_len, seZ_len, stZ_len, List.take_succ_cons, List.take_zero, List.drop_succ_cons, List.drop_zero]
    repeat' (first | apply And.intro | intro _)
    any_goals (first | (refine Or.inl (hR16 _ _ _ _ ?_); clear hR16) | (first | omega | (simp only [IntKind.wrap_i64] at *; omega) | (simp_all; done) | (simp_all; omega)))
    try simp (maxSteps := 1000000) [zL_eq, zL_len, seZ_len, stZ_len, List.take_succ_cons, List.take_zero, List.drop_succ_cons, List.drop_zero]
    repeat' (first | apply And.intro | intro _)
    any_goals (first | kernel_rfl | (refine hK11 _ ?_; clear hK11) | (first | omega | (simp only [IntKind.wrap_i64] at *; omega) | (simp_all; done) | (simp_all; omega)))
    refine swp_seq fun K18 hK18 => ?_
    refine swp_seq fun K19 hK19 => ?_
    refine swp_region ty_ok ?_
    try simp (maxSteps := 1000000) [zL_eq, zL_len, seZ_len, stZ_len]
    repeat' (first | apply And.intro | intro _)
    any_goals (first | (refine hK19 _ ?_; clear hK19) | (first | omega | (simp only [IntKind.wrap_i64] at *; omega) | (simp_all; done) | (simp_all; omega)))
    refine swp_block ?_
    refine swp_ownb 50 5 36 (by rfl) (by rfl) (by rfl) ?_
    simp only [List.set]
    refine swp_ownb 50 6 22 (by rfl) (by rfl) (by rfl) ?_
    simp only [List.set]
    refine swp_loop 68 (fun m_ s_ => ∃ (k : Nat), (k ≤ g.length) ∧ s_ = ⟨[(3, .ptr 0 0 0 1), (4, .ptr 1 0 0 1), (9, .ptr 50 0 0 1), (31, .int .i64 (g.length : Nat)), (32, .int .i64 (k : Nat))], [(0, some ⟨.rows 4 [[.int .u8 s, .int .u8 sh, .int .i64 m, .ro (.ints .i64 g)]], true, 24⟩), (1, some ⟨.rows 9 [[.int .i64 0, .int .u8 0, .int .u8 0, .int .i64 0, .nil (.ints .i64 []), .nil (.rows 1 []), .nil (.rows 1 []), .nil (.rows 1 []), .nil (.ints .i64 [])]], true, 29⟩), (50, some ⟨.rows 9 [[.int .i64 0, .int .u8 s, .int .u8 sh, .int .i64 m, .ro (.ints .i64 g), .sl 66 0 k k, .sl 67 0 k k, .ro (.rows 1 ((tnZ (winI s sh m g)).map fun w => [PV.ro (.rows 5 (w.map Fl.row))])), .ro (.ints .i64 zL)]], true, 29⟩), (66, some ⟨.rows 1 ((seZ m k).map fun w => [PV.ro (.rows 2 (w.map Sc.row))]), false, 36⟩), (67, some ⟨.rows 1 ((stZ m k).map fun w => [PV.ro (.ints .i64 w)]), false, 22⟩)], 68⟩ ∧ m_ = g.length - k) _ ⟨[(3, .ptr 0 0 0 1), (4, .ptr 1 0 0 1), (9, .ptr 50 0 0 1), (31, .int .i64 (g.length : Nat)), (32, .int .i64 (0 : Nat))], [(0, some ⟨.rows 4 [[.int .u8 s, .int .u8 sh, .int .i64 m, .ro (.ints .i64 g)]], true, 24⟩), (1, some ⟨.rows 9 [[.int .i64 0, .int .u8 0, .int .u8 0, .int .i64 0, .nil (.ints .i64 []), .nil (.rows 1 []), .nil (.rows 1 []), .nil (.rows 1 []), .nil (.ints .i64 [])]], true, 29⟩), (50, some ⟨.rows 9 [[.int .i64 0, .int .u8 s, .int .u8 sh, .int .i64 m, .ro (.ints .i64 g), .sl 66 0 0 0, .sl 67 0 0 0, .ro (.rows 1 ((tnZ (winI s sh m g)).map fun w => [PV.ro (.rows 5 (w.map Fl.row))])), .ro (.ints .i64 zL)]], true, 29⟩), (66, some ⟨.rows 1 ((seZ m 0).map fun w => [PV.ro (.rows 2 (w.map Sc.row))]), false, 36⟩), (67, some ⟨.rows 1 ((stZ m 0).map fun w => [PV.ro (.ints .i64 w)]), false, 22⟩)], 68⟩ ⟨by simp [getT, PV.lo, lo1], by simp [getH, Blk.lo, Cells.lo, lo1, seZ, stZ, tnZ_map, zL_eq], rfl, by omega⟩ ⟨(0), by (first | omega | (simp only [IntKind.wrap_i64] at *; omega) | (simp_all; done) | (simp_all; omega)), rfl, rfl⟩ ?_
    rintro m_ s_ ⟨k, hL20_0, rfl, rfl⟩ KL20 hL20
    have hkw : IntKind.i64.wrap ((k : Int) + 1) = (((k + 1 : Nat)) : Int) := wnext (by omega)
    refine swp_seq fun K21 hK21 => ?_
    refine swp_region ty_ok ?_
    try simp (maxSteps := 1000000) [zL_eq, zL_len, seZ_len, stZ_len]
    repeat' (first | apply And.intro | intro _)
    any_goals (first | (refine hK21 _ ?_; clear hK21) | (first | omega | (simp only [IntKind.wrap_i64] at *; omega) | (simp_all; done) | (simp_all; omega)))
    refine swp_seq fun K22 hK22 => ?_
    refine swp_if fun C23 hC23 => ?_
    try simp (maxSteps := 1000000) [zL_eq, zL_len, seZ_len, stZ_len]
    refine hC23 _ (fun hc23 => ?_) (fun hc23 => ?_)
    · clear hC23
      try simp at hc23
      refine swp_skip ?_
      simp only [thn, inBlk]
      refine hK22 _ ?_; clear hK22
      refine swp_seq fun K24 hK24 => ?_
      refine swp_block ?_
      refine swp_seq fun K25 hK25 => ?_
      refine swp_region ty_ok ?_
      try simp (maxSteps := 1000000) [zL_eq, zL_len, seZ_len, stZ_len]
      repeat' (first | apply And.intro | intro _)
      any_goals (first | (refine hK25 _ ?_; clear hK25) | (first | omega | (simp only [IntKind.wrap_i64] at *; omega) | (simp_all; done) | (simp_all; omega)))
      refine swp_seq fun K26 hK26 => ?_
      refine swp_seq fun K27 hK27 => ?_
      refine swp_region ty_ok ?_
      try simp (maxSteps := 1000000) [zL_eq, zL_len, seZ_len, stZ_len]
      repeat' (first | apply And.intro | intro _)
      any_goals (first | (refine hK27 _ ?_; clear hK27) | (first | omega | (simp only [IntKind.wrap_i64] at *; omega) | (simp_all; done) | (simp_all; omega)))
      refine swp_if fun C28 hC28 => ?_
      try simp (maxSteps := 1000000) [zL_eq, zL_len, seZ_len, stZ_len]
      refine hC28 _ (fun hc28 => ?_) (fun hc28 => ?_)
      · clear hC28
        try simp at hc28
        refine swp_region ty_ok ?_
        refine runs_cut 3 fun R29 hR29 => ?_
        try simp (maxSteps := 1000000) [zL_eq, zL_len, seZ_len, stZ_len, List.take_succ_cons, List.take_zero, List.drop_succ_cons, List.drop_zero]
        repeat' (first | apply And.intro | intro _)
        any_goals (first | (refine hR29 _ ?_; clear hR29) | (first | omega | (simp only [IntKind.wrap_i64] at *; omega) | (simp_all; done) | (simp_all; omega)))
        refine runs_cut 1 fun R30 hR30 => ?_
        try simp (maxSteps := 1000000) [zL_eq, zL_len, seZ_len, stZ_len, List.take_succ_cons, List.take_zero, List.drop_succ_cons, List.drop_zero]
        repeat' (first | apply And.intro | intro _)
        any_goals (first | (refine Or.inl (hR30 _ ?_); clear hR30) | (first | omega | (simp only [IntKind.wrap_i64] at *; omega) | (simp_all; done) | (simp_all; omega)))
        try simp (maxSteps := 1000000) [zL_eq, zL_len, seZ_len, stZ_len, List.take_succ_cons, List.take_zero, List.drop_succ_cons, List.drop_zero]
        repeat' (first | apply And.intro | intro _)
        any_goals (first | (refine hK26 _ ?_; clear hK26) | (first | omega | (simp only [IntKind.wrap_i64] at *; omega) | (simp_all; done) | (simp_all; omega)))
        have hmn : ((m.toNat : Nat) : Int) = m := by omega
        refine swp_draw ty_ok mixed (ms := [0, 1, 0, 4, 15, 0, 32, 0, 128, 384, 896, 2047, 127, 8191, 16383, 32767]) (by kernel_rfl) ?_
        refine runD_cut 3 fun R31 hR31 => ?_
        try simp (maxSteps := 1000000) [zL_eq, zL_len, seZ_len, stZ_len, hmn, List.take_succ_cons, List.take_zero, List.drop_succ_cons, List.drop_zero]
        repeat' (first | apply And.intro | intro _)
        any_goals (first | (refine hR31 _ _ _ _ ?_; clear hR31) | (first | omega | (simp only [IntKind.wrap_i64] at *; omega) | (simp_all; done) | (simp_all; omega)))
        refine runD_cut 1 fun R32 hR32 => ?_
        try simp (maxSteps := 1000000) [zL_eq, zL_len, seZ_len, stZ_len, hmn, List.take_succ_cons, List.take_zero, List.drop_succ_cons, List.drop_zero]
        repeat' (first | apply And.intro | intro _)
        any_goals (first | (refine Or.inl (hR32 _ _ _ _ ?_); clear hR32) | (first | omega | (simp only [IntKind.wrap_i64] at *; omega) | (simp_all; done) | (simp_all; omega)))
        refine runD_cut 5 fun R33 hR33 => ?_
        try simp (maxSteps := 1000000) [zL_eq, zL_len, seZ_len, stZ_len, hmn, List.take_succ_cons, List.take_zero, List.drop_succ_cons, List.drop_zero]
        repeat' (first | apply And.intro | intro _)
        any_goals (first | (refine hR33 _ _ _ _ ?_; clear hR33) | (first | omega | (simp only [IntKind.wrap_i64] at *; omega) | (simp_all; done) | (simp_all; omega)))
        refine runD_cut 1 fun R34 hR34 => ?_
        try simp (maxSteps := 1000000) [zL_eq, zL_len, seZ_len, stZ_len, hmn, List.take_succ_cons, List.take_zero, List.drop_succ_cons, List.drop_zero]
        repeat' (first | apply And.intro | intro _)
        any_goals (first | (refine Or.inl (hR34 _ _ _ _ ?_); clear hR34) | (first | omega | (simp only [IntKind.wrap_i64] at *; omega) | (simp_all; done) | (simp_all; omega)))
        refine runD_cut 1 fun R35 hR35 => ?_
        try simp (maxSteps := 1000000) [zL_eq, zL_len, seZ_len, stZ_len, hmn, List.take_succ_cons, List.take_zero, List.drop_succ_cons, List.drop_zero]
        repeat' (first | apply And.intro | intro _)
        any_goals (first | (refine Or.inl (hR35 _ _ _ _ ?_); clear hR35) | (first | omega | (simp only [IntKind.wrap_i64] at *; omega) | (simp_all; done) | (simp_all; omega)))
        try simp (maxSteps := 1000000) [zL_eq, zL_len, seZ_len, stZ_len, hmn, List.take_succ_cons, List.take_zero, List.drop_succ_cons, List.drop_zero]
        repeat' (first | apply And.intro | intro _)
        any_goals (first | kernel_rfl | (refine hK24 _ ?_; clear hK24) | (first | omega | (simp only [IntKind.wrap_i64] at *; omega) | (simp_all; done) | (simp_all; omega)))
        refine swp_region ty_ok ?_
        try simp (maxSteps := 1000000) [zL_eq, zL_len, seZ_len, stZ_len]
        repeat' apply And.intro
        any_goals (try omega)
        refine hL20 _ ⟨[(3, .ptr 0 0 0 1), (4, .ptr 1 0 0 1), (9, .ptr 50 0 0 1), (31, .int .i64 (g.length : Nat)), (32, .int .i64 ((k + 1) : Nat))], [(0, some ⟨.rows 4 [[.int .u8 s, .int .u8 sh, .int .i64 m, .ro (.ints .i64 g)]], true, 24⟩), (1, some ⟨.rows 9 [[.int .i64 0, .int .u8 0, .int .u8 0, .int .i64 0, .nil (.ints .i64 []), .nil (.rows 1 []), .nil (.rows 1 []), .nil (.rows 1 []), .nil (.ints .i64 [])]], true, 29⟩), (50, some ⟨.rows 9 [[.int .i64 0, .int .u8 s, .int .u8 sh, .int .i64 m, .ro (.ints .i64 g), .sl 66 0 (k + 1) (k + 1), .sl 67 0 (k + 1) (k + 1), .ro (.rows 1 ((tnZ (winI s sh m g)).map fun w => [PV.ro (.rows 5 (w.map Fl.row))])), .ro (.ints .i64 zL)]], true, 29⟩), (66, some ⟨.rows 1 ((seZ m (k + 1)).map fun w => [PV.ro (.rows 2 (w.map Sc.row))]), false, 36⟩), (67, some ⟨.rows 1 ((stZ m (k + 1)).map fun w => [PV.ro (.ints .i64 w)]), false, 22⟩)], 68⟩ _ ?_ ⟨(k + 1), by (first | omega | (simp only [IntKind.wrap_i64] at *; omega) | (simp_all; done) | (simp_all; omega)), rfl, rfl⟩ ⟨by simp [getT, PV.lo, lo1, hkw], by (simp [getH, Blk.lo, Cells.lo, lo1, seZ_succ, stZ_succ]; first | (rw [srZ, if_pos (by omega)]; first | done | rfl) | (rw [srZ, if_neg (by omega)]; first | done | rfl)), rfl, by omega⟩
        omega
      · clear hC28
        try simp at hc28
        refine swp_skip ?_
        simp only [thn, inBlk]
        refine hK26 _ ?_; clear hK26
        have hmn : ((m.toNat : Nat) : Int) = m := by omega
        refine swp_draw ty_ok mixed (ms := [0, 1, 0, 4, 15, 0, 32, 0, 128, 384, 896, 2047, 127, 8191, 16383, 32767]) (by kernel_rfl) ?_
        refine runD_cut 3 fun R37 hR37 => ?_
        try simp (maxSteps := 1000000) [zL_eq, zL_len, seZ_len, stZ_len, hmn, List.take_succ_cons, List.take_zero, List.drop_succ_cons, List.drop_zero]
        repeat' (first | apply And.intro | intro _)
        any_goals (first | (refine hR37 _ _ _ _ ?_; clear hR37) | (first | omega | (simp only [IntKind.wrap_i64] at *; omega) | (simp_all; done) | (simp_all; omega)))
        refine runD_cut 1 fun R38 hR38 => ?_
        try simp (maxSteps := 1000000) [zL_eq, zL_len, seZ_len, stZ_len, hmn, List.take_succ_cons, List.take_zero, List.drop_succ_cons, List.drop_zero]
        repeat' (first | apply And.intro | intro _)
        any_goals (first | (refine Or.inl (hR38 _ _ _ _ ?_); clear hR38) | (first | omega | (simp only [IntKind.wrap_i64] at *; omega) | (simp_all; done) | (simp_all; omega)))
        refine runD_cut 5 fun R39 hR39 => ?_
        try simp (maxSteps := 1000000) [zL_eq, zL_len, seZ_len, stZ_len, hmn, List.take_succ_cons, List.take_zero, List.drop_succ_cons, List.drop_zero]
        repeat' (first | apply And.intro | intro _)
        any_goals (first | (refine hR39 _ _ _ _ ?_; clear hR39) | (first | omega | (simp only [IntKind.wrap_i64] at *; omega) | (simp_all; done) | (simp_all; omega)))
        refine runD_cut 1 fun R40 hR40 => ?_
        try simp (maxSteps := 1000000) [zL_eq, zL_len, seZ_len, stZ_len, hmn, List.take_succ_cons, List.take_zero, List.drop_succ_cons, List.drop_zero]
        repeat' (first | apply And.intro | intro _)
        any_goals (first | (refine Or.inl (hR40 _ _ _ _ ?_); clear hR40) | (first | omega | (simp only [IntKind.wrap_i64] at *; omega) | (simp_all; done) | (simp_all; omega)))
        refine runD_cut 1 fun R41 hR41 => ?_
        try simp (maxSteps := 1000000) [zL_eq, zL_len, seZ_len, stZ_len, hmn, List.take_succ_cons, List.take_zero, List.drop_succ_cons, List.drop_zero]
        repeat' (first | apply And.intro | intro _)
        any_goals (first | (refine Or.inl (hR41 _ _ _ _ ?_); clear hR41) | (first | omega | (simp only [IntKind.wrap_i64] at *; omega) | (simp_all; done) | (simp_all; omega)))
        try simp (maxSteps := 1000000) [zL_eq, zL_len, seZ_len, stZ_len, hmn, List.take_succ_cons, List.take_zero, List.drop_succ_cons, List.drop_zero]
        repeat' (first | apply And.intro | intro _)
        any_goals (first | kernel_rfl | (refine hK24 _ ?_; clear hK24) | (first | omega | (simp only [IntKind.wrap_i64] at *; omega) | (simp_all; done) | (simp_all; omega)))
        refine swp_region ty_ok ?_
        try simp (maxSteps := 1000000) [zL_eq, zL_len, seZ_len, stZ_len]
        repeat' apply And.intro
        any_goals (try omega)
        refine hL20 _ ⟨[(3, .ptr 0 0 0 1), (4, .ptr 1 0 0 1), (9, .ptr 50 0 0 1), (31, .int .i64 (g.length : Nat)), (32, .int .i64 ((k + 1) : Nat))], [(0, some ⟨.rows 4 [[.int .u8 s, .int .u8 sh, .int .i64 m, .ro (.ints .i64 g)]], true, 24⟩), (1, some ⟨.rows 9 [[.int .i64 0, .int .u8 0, .int .u8 0, .int .i64 0, .nil (.ints .i64 []), .nil (.rows 1 []), .nil (.rows 1 []), .nil (.rows 1 []), .nil (.ints .i64 [])]], true, 29⟩), (50, some ⟨.rows 9 [[.int .i64 0, .int .u8 s, .int .u8 sh, .int .i64 m, .ro (.ints .i64 g), .sl 66 0 (k + 1) (k + 1), .sl 67 0 (k + 1) (k + 1), .ro (.rows 1 ((tnZ (winI s sh m g)).map fun w => [PV.ro (.rows 5 (w.map Fl.row))])), .ro (.ints .i64 zL)]], true, 29⟩), (66, some ⟨.rows 1 ((seZ m (k + 1)).map fun w => [PV.ro (.rows 2 (w.map Sc.row))]), false, 36⟩), (67, some ⟨.rows 1 ((stZ m (k + 1)).map fun w => [PV.ro (.ints .i64 w)]), false, 22⟩)], 68⟩ _ ?_ ⟨(k + 1), by (first | omega | (simp only [IntKind.wrap_i64] at *; omega) | (simp_all; done) | (simp_all; omega)), rfl, rfl⟩ ⟨by simp [getT, PV.lo, lo1, hkw], by (simp [getH, Blk.lo, Cells.lo, lo1, seZ_succ, stZ_succ]; first | (rw [srZ, if_pos (by omega)]; first | done | rfl) | (rw [srZ, if_neg (by omega)]; first | done | rfl)), rfl, by omega⟩
        omega
    · clear hC23
      try simp at hc23
      refine swp_exit ?_
      simp [thn, inBlk]
      refine hK18 _ ?_; clear hK18
      refine swp_seq fun K43 hK43 => ?_
      refine swp_region ty_ok ?_
      try simp (maxSteps := 1000000) [zL_eq, zL_len, seZ_len, stZ_len]
      repeat' (first | apply And.intro | intro _)
      any_goals (first | (refine hK43 _ ?_; clear hK43) | (first | omega | (simp only [IntKind.wrap_i64] at *; omega) | (simp_all; done) | (simp_all; omega)))
      refine swp_ret ?_
      simp [fnPost, Try.results28, resP, tupOf]
      have hke : k = g.length := by omega
      subst hke
      first | exact ⟨seZ_len _ _, stZ_len _ _, rfl, rfl⟩ | (refine ⟨?_, ?_⟩ <;> simp [seZ_len, stZ_len]) | simp [seZ_len, stZ_len]

theorem zero_B (rate s sh m : Int) (g : List Int) (hs0 : (0 ≤ s ∧ s ≤ 255) ∧ 0 ≤ sh ∧ sh ≤ 255) (hx : g.length ≤ 1000) (hz : ¬ chI rate s sh m g = 0) : PCall Try.prog 28 [.int .i64 rate, .agg [.int .u8 s, .int .u8 sh, .int .i64 m, .ro (.ints .i64 g)]] (.tup [.agg [.int .i64 0, .int .u8 0, .int .u8 0, .int .i64 0, .ro (.ints .i64 []), .ro (.rows 1 []), .ro (.rows 1 []), .ro (.rows 1 []), .ro (.ints .i64 [])], .int .i64 (chI rate s sh m g)]) := by
  refine pcall_body ty_ok Try.func28 rfl (by rfl) (by simp) ?_
  rw [Try.ntmps28]
  refine swp_seq fun K1 hK1 => ?_
  refine swp_region ty_ok ?_
  try simp (maxSteps := 1000000)
  repeat' (first | apply And.intro | intro _)
  any_goals (first | (refine hK1 _ ?_; clear hK1) | (first | omega | (simp only [IntKind.wrap_i64] at *; omega) | (simp_all; done) | (simp_all; omega)))
  refine swp_seq fun K2 hK2 => ?_
  refine swp_seq fun K3 hK3 => ?_
  refine swp_region ty_ok ?_
  refine runs_cut 2 fun R4 hR4 => ?_
  try simp (maxSteps := 1000000) [List.take_succ_cons, List.take_zero, List.drop_succ_cons, List.drop_zero]
  repeat' (first | apply And.intro | intro _)
  any_goals (first | (refine hR4 _ ?_; clear hR4) | (first | omega | (simp only [IntKind.wrap_i64] at *; omega) | (simp_all; done) | (simp_all; omega)))
  refine runs_cut 1 fun R5 hR5 => ?_
  try simp (maxSteps := 1000000) [List.take_succ_cons, List.take_zero, List.drop_succ_cons, List.drop_zero]
  refine .inl ⟨_, info_Check_ok rate s sh m g (by omega), ?_⟩
  try simp (maxSteps := 1000000)
  repeat' (first | apply And.intro | intro _)
  any_goals (first | (refine hR5 _ ?_; clear hR5) | (first | omega | (simp only [IntKind.wrap_i64] at *; omega) | (simp_all; done) | (simp_all; omega)))
  try simp (maxSteps := 1000000) [List.take_succ_cons, List.take_zero, List.drop_succ_cons, List.drop_zero]
  repeat' (first | apply And.intro | intro _)
  any_goals (first | (refine hK3 _ ?_; clear hK3) | (first | omega | (simp only [IntKind.wrap_i64] at *; omega) | (simp_all; done) | (simp_all; omega)))
  refine swp_seq fun K6 hK6 => ?_
  refine swp_region ty_ok ?_
  try simp (maxSteps := 1000000)
  repeat' (first | apply And.intro | intro _)
  any_goals (first | (refine hK6 _ ?_; clear hK6) | (first | omega | (simp only [IntKind.wrap_i64] at *; omega) | (simp_all; done) | (simp_all; omega)))
  refine swp_if fun C7 hC7 => ?_
  try simp (maxSteps := 1000000)
  refine hC7 _ (fun hc7 => ?_) (fun hc7 => ?_)
  · clear hC7
    try simp at hc7
    refine swp_seq fun K8 hK8 => ?_
    refine swp_region ty_ok ?_
    try simp (maxSteps := 1000000)
    repeat' (first | apply And.intro | intro _)
    any_goals (first | (refine hK8 _ ?_; clear hK8) | (first | omega | (simp only [IntKind.wrap_i64] at *; omega) | (simp_all; done) | (simp_all; omega)))
    refine swp_ret ?_
    simp [fnPost, Try.results28, resP, tupOf]
  · exact absurd (by simpa using hc7) hz

end Go.Proofs.Ytmkgfgdipkagbaa

