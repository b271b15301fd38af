import Derived.Test.YtmkgfgdipkagbaaWb
import Derived.Test.YtmkgfgdipkagbaaTyl
import Derived.Test.YtmkgfgdipkagbaaLband
import Derived.Test.YtmkgfgdipkagbaaLinfo
import Derived.Test.YtmkgfgdipkagbaaLinfo2
import Derived.Test.YtmkgfgdipkagbaaLbits
import Derived.Test.YtmkgfgdipkagbaaLtns
namespace Go.Proofs.Ytmkgfgdipkagbaa
set_option linter.unusedVariables false
set_option linter.unusedSimpArgs false
set_option maxRecDepth 10000
open Go Go.Pv


open Go.RowKit
def mkB (n size : Int) : Int := n % 2 ^ size.toNat
def pk (n size : Int) : List Int := bitsOf (mkB n size).toNat size.toNat
theorem pk_len (n size : Int) : (pk n size).length = size.toNat := by simp [pk, bitsOf_len]
theorem mask_nat (n : Int) (s : Nat) (hs : s ≤ 31) : ((((n % 2 ^ 64).toNat &&& ((2 ^ s - 1 : Int) % 2 ^ 64).toNat : Nat)) : Int) = n % 2 ^ s := by
  have hp : 0 < 2 ^ s := Nat.pow_pos (by omega)
  have hp2 : 2 ^ s ≤ 2 ^ 31 := Nat.pow_le_pow_right (by omega) hs
  have hc : ((2 ^ s : Nat) : Int) = (2 : Int) ^ s := by push_cast; rfl
  have e1 : ((2 ^ s - 1 : Int) % 2 ^ 64).toNat = 2 ^ s - 1 := by
    rw [Int.emod_eq_of_lt (by omega) (by omega)]
    omega
  rw [e1, Nat.and_two_pow_sub_one_eq_mod]
  have h0 : 0 ≤ n % (2 ^ 64 : Int) := Int.emod_nonneg _ (by decide)
  rw [Int.natCast_emod, Int.toNat_of_nonneg h0, hc]
  exact Int.emod_emod_of_dvd _ (by
    have : ((2 ^ s : Nat) : Int) ∣ ((2 ^ 64 : Nat) : Int) := Int.natCast_dvd_natCast.2 (Nat.pow_dvd_pow 2 (by omega))
    rw [hc] at this
    exact this)
theorem mk_ok {n size : Int} (h : 0 ≤ size ∧ size ≤ 31) : IntKind.i64.wrap ((((n % 2 ^ IntKind.i64.bits).toNat &&& (IntKind.i64.wrap (IntKind.i64.wrap (2 ^ (min size.toNat 64)) - 1) % 2 ^ IntKind.i64.bits).toNat : Nat)) : Int) = mkB n size ∧ putOk (mkB n size) size = true ∧ -9223372036854775808 ≤ mkB n size ∧ mkB n size ≤ 9223372036854775807 := by
  obtain ⟨s, rfl⟩ := Int.eq_ofNat_of_zero_le h.1
  have hp : 0 < 2 ^ s := Nat.pow_pos (by omega)
  have hp2 : 2 ^ s ≤ 2 ^ 31 := Nat.pow_le_pow_right (by omega) (by omega)
  have hc : ((2 ^ s : Nat) : Int) = (2 : Int) ^ s := by push_cast; rfl
  have h1 : 0 ≤ mkB n s := Int.emod_nonneg _ (by rw [Int.toNat_natCast]; omega)
  have h2 : mkB n s < 2 ^ s := by
    have := Int.emod_lt_of_pos n (show (0 : Int) < 2 ^ s by omega)
    rw [mkB, Int.toNat_natCast]
    exact this
  refine ⟨?_, ?_, by omega, by omega⟩
  · rw [Int.toNat_natCast, Nat.min_eq_left (by omega), w64 (n := 2 ^ s) (by omega), w64 (n := 2 ^ s - 1) (by omega), show (2 : Int) ^ IntKind.i64.bits = 2 ^ 64 from rfl, mask_nat n s (by omega), w64 (by unfold mkB at h1 h2; rw [Int.toNat_natCast] at h1 h2; omega)]
    rfl
  · obtain ⟨k, hk⟩ := Int.eq_ofNat_of_zero_le h1
    rw [hk]
    exact putOk_nat (by omega) (by omega)
def narB (f : Fl) : Bool := fitB f.co (widB f.fine - 1)
def cszB (f : Fl) : Int := widB f.fine - bitB (narB f)
def cB (f : Fl) (i : Nat) : List Int := (f.co.take i).flatMap fun n => pk n (cszB f)
def filB (s : Int) (f : Fl) : List Int := pk f.len (sz1 s) ++ (pk f.order (sz2 s) ++ (if f.order = 0 then [] else pk (bitB f.down) 1 ++ (pk (bitB (narB f)) 1 ++ cB f f.co.length)))
def hdB (s : Int) (w : List Fl) : List Int := pk w.length (sz0 s) ++ (if 0 < w.length then pk (bitB (w[0]?.getD default).fine) 1 else [])
def fB (s : Int) (w : List Fl) (j : Nat) : List Int := (w.take j).flatMap (filB s)
def winB (s : Int) (w : List Fl) : List Int := hdB s w ++ fB s w w.length
def tB (s : Int) (l : List (List Fl)) (k : Nat) : List Int := (l.take k).flatMap (winB s)
theorem take_flat {α : Type} [Inhabited α] (g : α → List Int) (l : List α) (k : Nat) (h : k < l.length) : (l.take (k + 1)).flatMap g = (l.take k).flatMap g ++ g (l[k]?.getD default) := by
  rw [List.take_succ_eq_append_getElem h, List.flatMap_append, List.getElem?_eq_getElem h]
  simp
theorem mem_at {α : Type} [Inhabited α] {w : List α} {j : Nat} (h : j < w.length) : w[j]?.getD default ∈ w := by
  rw [List.getElem?_eq_getElem h]
  exact List.getElem_mem h
theorem cB_succ (f : Fl) (i : Nat) (h : i < f.co.length) : cB f (i + 1) = cB f i ++ pk (f.co[i]?.getD 0) (cszB f) := take_flat _ _ _ h
theorem fB_succ (s : Int) (w : List Fl) (j : Nat) (h : j < w.length) : fB s w (j + 1) = fB s w j ++ filB s (w[j]?.getD default) := take_flat _ _ _ h
theorem tB_succ (s : Int) (l : List (List Fl)) (k : Nat) (h : k < l.length) : tB s l (k + 1) = tB s l k ++ winB s (l[k]?.getD []) := take_flat _ _ _ h
theorem flat_len {α : Type} (g : α → List Int) (b : Nat) : ∀ (l : List α), (∀ x ∈ l, (g x).length ≤ b) → (l.flatMap g).length ≤ b * l.length
  | [], _ => by simp
  | x :: l, h => by
    have h1 := h x (by simp)
    have h2 := flat_len g b l fun y hy => h y (by simp [hy])
    simp only [List.flatMap_cons, List.length_append, List.length_cons, Nat.mul_succ]
    omega
theorem sz_bd (s : Int) : (1 ≤ sz0 s ∧ sz0 s ≤ 2) ∧ (4 ≤ sz1 s ∧ sz1 s ≤ 6) ∧ (3 ≤ sz2 s ∧ sz2 s ≤ 5) ∧ (1 ≤ sz3 s ∧ sz3 s ≤ 3) ∧ (7 ≤ sz4 s ∧ sz4 s ≤ 12) := by
  unfold sz0 sz1 sz2 sz3 sz4
  split <;> omega
theorem csz_bd (f : Fl) : 2 ≤ cszB f ∧ cszB f ≤ 4 := by
  have := wid_bd f.fine
  unfold cszB bitB
  split <;> omega
theorem right_ok {s : Int} {f : Fl} (h : rightB s f = true) : (0 ≤ f.len ∧ f.len < top1 s) ∧ (0 ≤ f.order ∧ f.order ≤ sz4 s) ∧ (f.co.length : Int) = f.order ∧ (0 < f.order ∨ f.down = false) ∧ fitB f.co (widB f.fine) = true := by
  unfold rightB at h
  simp only [Bool.and_eq_true, decide_eq_true_eq, Bool.or_eq_true, Bool.not_eq_true'] at h
  obtain ⟨h1, h2, h3, h4, h5, h6, h7⟩ := h
  exact ⟨⟨h1, h2⟩, ⟨h3, h4⟩, h5, h6, h7⟩
theorem cB_len {f : Fl} (i : Nat) : (cB f i).length ≤ 4 * i := by
  have h := flat_len (fun n => pk n (cszB f)) 4 (f.co.take i) fun x _ => by
    have := csz_bd f
    rw [pk_len]
    omega
  have : (f.co.take i).length ≤ i := by rw [List.length_take]; omega
  unfold cB
  omega
theorem fil_len {s : Int} {f : Fl} (h : rightB s f = true) : (filB s f).length ≤ 61 := by
  obtain ⟨h1, h2, h3, h4, h5⟩ := right_ok h
  have h6 := sz_bd s
  have h7 := @cB_len f f.co.length
  unfold filB
  split
  · simp only [List.length_append, pk_len, List.length_nil]; omega
  · simp only [List.length_append, pk_len]; omega
theorem fB_len {s : Int} {w : List Fl} (h : ∀ f ∈ w, rightB s f = true) (j : Nat) : (fB s w j).length ≤ 61 * j := by
  have h1 := flat_len (filB s) 61 (w.take j) fun f hf => fil_len (h f (List.mem_of_mem_take hf))
  have : (w.take j).length ≤ j := by rw [List.length_take]; omega
  unfold fB
  omega
theorem hd_len (s : Int) (w : List Fl) : (hdB s w).length ≤ 3 := by
  have h6 := sz_bd s
  unfold hdB
  split
  · simp only [List.length_append, pk_len]; omega
  · simp only [List.length_append, pk_len, List.length_nil]; omega
theorem bad_ok {s : Int} {w : List Fl} (h : badW s w = false) : (w.length : Int) ≤ sz3 s ∧ ∀ f ∈ w, rightB s f = true ∧ f.fine = (w[0]?.getD default).fine := by
  unfold badW at h
  rw [Bool.or_eq_false_iff, decide_eq_false_iff_not] at h
  refine ⟨by omega, fun f hf => ?_⟩
  have := List.any_eq_false.1 h.2 f hf
  unfold badF at this
  simp only [Bool.or_eq_true, Bool.not_eq_true', not_or, Bool.not_eq_false] at this
  exact ⟨this.1, by simpa using this.2⟩
theorem win_len {s : Int} {w : List Fl} (h : badW s w = false) : (winB s w).length ≤ 200 := by
  obtain ⟨h1, h2⟩ := bad_ok h
  have h3 := hd_len s w
  have h4 := fB_len (fun f hf => (h2 f hf).1) w.length
  have h6 := sz_bd s
  unfold winB
  rw [List.length_append]
  omega
theorem tB_len {s : Int} {l : List (List Fl)} (h : ∀ w ∈ l, badW s w = false) (k : Nat) : (tB s l k).length ≤ 200 * k := by
  have h1 := flat_len (winB s) 200 (l.take k) fun w hw => win_len (h w (List.mem_of_mem_take hw))
  have : (l.take k).length ≤ k := by rw [List.length_take]; omega
  unfold tB
  omega
theorem chT_zero {s sh m : Int} {g : List Int} {l : List (List Fl)} (h : chT s sh m g l = 0) : winE s sh m g = 0 ∧ (l.length : Int) = winI s sh m g ∧ l.length ≤ 8 ∧ ∀ w ∈ l, badW s w = false := by
  unfold chT at h
  split at h
  · rename_i h1
    split at h
    · rename_i h2
      split at h
      · cases h
      · rename_i h3
        have := may_pos (winE_yes h1)
        refine ⟨h1, h2, by omega, fun w hw => ?_⟩
        cases hb : badW s w with
        | false => rfl
        | true => exact absurd (List.any_eq_true.2 ⟨w, hw, hb⟩) h3
    · cases h
  · rename_i h1
    exact absurd h h1

theorem clone_b (xs : List Int) (hx : xs.length ≤ 17592186043000) : PCall Try.prog 59 [.ro (.ints .u8 xs)] (.ro (.ints .u8 xs)) := by
  refine pcall_body ty_ok Try.func59 rfl (by rfl) (by simp) ?_
  rw [Try.ntmps59]
  refine swp_seq fun K1 hK1 => ?_
  refine swp_region ty_ok ?_
  try simp (maxSteps := 1000000) [runs, gd, step1, need, evu, un, opnds, opv, ev, cst, cst1, cstL, getT, getH, putT, onL, nxt, argT, cellsOf, PV.one, thn, inBlk, jmp, fldP, ldP, ldC, live, Cells.len, Cells.get, Cells.w, sug, ldv, bin, ops2, sh2, binv, Tk.agg, stC, apC, rdS, apS, mvL, zp, argsP, idx, fillP, toInts, chunks, mkC, ixS, ixA, oidx, slP, sl0, mxF, bltn, frzA, frz, frzL, frz1, pur1, Cells.pur, PV.scal, scal1, runD, rdO, PV.ids, id1, zids, ety, Eff.on, cnd, minb, and1b, ifmax, ifmin, mxv, sugI, strv, w0, w1, w2, wm1]
  repeat' (first | apply And.intro | intro _)
  any_goals (first | (refine hK1 _ ?_; clear hK1) | (first | omega | (simp only [IntKind.wrap_i64] at *; omega) | (simp_all; done) | (simp_all; omega)))
  refine swp_seq fun K2 hK2 => ?_
  refine swp_seq fun K3 hK3 => ?_
  refine swp_isnil ty_ok (t := 45) (e := 5) (d := 3) (b := 4) rfl rfl (by simp [ev, getT]; rfl) (by omega) (by omega) (fun v hv => ?_) ⟨rfl, rfl, rfl, rfl⟩ ⟨rfl, rfl, rfl⟩
  simp only [thn, inBlk]
  refine hK3 _ ?_; clear hK3
  refine swp_if fun C4 hC4 => ?_
  try simp (maxSteps := 1000000) [runs, gd, step1, need, evu, un, opnds, opv, ev, cst, cst1, cstL, getT, getH, putT, onL, nxt, argT, cellsOf, PV.one, thn, inBlk, jmp, fldP, ldP, ldC, live, Cells.len, Cells.get, Cells.w, sug, ldv, bin, ops2, sh2, binv, Tk.agg, stC, apC, rdS, apS, mvL, zp, argsP, idx, fillP, toInts, chunks, mkC, ixS, ixA, oidx, slP, sl0, mxF, bltn, frzA, frz, frzL, frz1, pur1, Cells.pur, PV.scal, scal1, runD, rdO, PV.ids, id1, zids, ety, Eff.on, cnd, minb, and1b, ifmax, ifmin, mxv, sugI, strv, w0, w1, w2, wm1]
  refine hC4 _ (fun hc4 => ?_) (fun hc4 => ?_)
  · clear hC4
    try simp at hc4
    refine swp_seq fun K5 hK5 => ?_
    refine swp_region ty_ok ?_
    try simp (maxSteps := 1000000) [runs, gd, step1, need, evu, un, opnds, opv, ev, cst, cst1, cstL, getT, getH, putT, onL, nxt, argT, cellsOf, PV.one, thn, inBlk, jmp, fldP, ldP, ldC, live, Cells.len, Cells.get, Cells.w, sug, ldv, bin, ops2, sh2, binv, Tk.agg, stC, apC, rdS, apS, mvL, zp, argsP, idx, fillP, toInts, chunks, mkC, ixS, ixA, oidx, slP, sl0, mxF, bltn, frzA, frz, frzL, frz1, pur1, Cells.pur, PV.scal, scal1, runD, rdO, PV.ids, id1, zids, ety, Eff.on, cnd, minb, and1b, ifmax, ifmin, mxv, sugI, strv, w0, w1, w2, wm1]
    repeat' (first | apply And.intro | intro _)
    any_goals (first | (refine hK5 _ ?_; clear hK5) | (first | omega | (simp only [IntKind.wrap_i64] at *; omega) | (simp_all; done) | (simp_all; omega)))
    refine swp_own 2 5 (by simp [getT]; rfl) rfl ?_
    refine swp_ret ?_
    simp [runs, gd, step1, need, evu, un, opnds, opv, ev, cst, cst1, cstL, getT, getH, putT, onL, nxt, argT, cellsOf, PV.one, thn, inBlk, jmp, fldP, ldP, ldC, live, Cells.len, Cells.get, Cells.w, sug, ldv, bin, ops2, sh2, binv, Tk.agg, stC, apC, rdS, apS, mvL, zp, argsP, idx, fillP, toInts, chunks, mkC, ixS, ixA, oidx, slP, sl0, mxF, bltn, frzA, frz, frzL, frz1, pur1, Cells.pur, PV.scal, scal1, runD, rdO, PV.ids, id1, zids, ety, Eff.on, cnd, minb, and1b, ifmax, ifmin, mxv, sugI, strv, w0, w1, w2, wm1, fnPost, Try.results59, resP, tupOf]
    exact List.eq_nil_of_length_eq_zero (hv (by assumption))
  · clear hC4
    try simp at hc4
    refine swp_skip ?_
    simp only [thn, inBlk]
    refine hK2 _ ?_; clear hK2
    refine swp_seq fun K6 hK6 => ?_
    refine swp_region ty_ok ?_
    refine runs_cut 1 fun R7 hR7 => ?_
    try simp (maxSteps := 1000000) [runs, gd, step1, need, evu, un, opnds, opv, ev, cst, cst1, cstL, getT, getH, putT, onL, nxt, argT, cellsOf, PV.one, thn, inBlk, jmp, fldP, ldP, ldC, live, Cells.len, Cells.get, Cells.w, sug, ldv, bin, ops2, sh2, binv, Tk.agg, stC, apC, rdS, apS, mvL, zp, argsP, idx, fillP, toInts, chunks, mkC, ixS, ixA, oidx, slP, sl0, mxF, bltn, frzA, frz, frzL, frz1, pur1, Cells.pur, PV.scal, scal1, runD, rdO, PV.ids, id1, zids, ety, Eff.on, cnd, minb, and1b, ifmax, ifmin, mxv, sugI, strv, w0, w1, w2, wm1, List.take_succ_cons, List.take_zero, List.drop_succ_cons, List.drop_zero]
    repeat' (first | apply And.intro | intro _)
    any_goals (first | (refine Or.inr (hR7 _ ?_); clear hR7) | (first | omega | (simp only [IntKind.wrap_i64] at *; omega) | (simp_all; done) | (simp_all; omega)))
    try simp (maxSteps := 1000000) [runs, gd, step1, need, evu, un, opnds, opv, ev, cst, cst1, cstL, getT, getH, putT, onL, nxt, argT, cellsOf, PV.one, thn, inBlk, jmp, fldP, ldP, ldC, live, Cells.len, Cells.get, Cells.w, sug, ldv, bin, ops2, sh2, binv, Tk.agg, stC, apC, rdS, apS, mvL, zp, argsP, idx, fillP, toInts, chunks, mkC, ixS, ixA, oidx, slP, sl0, mxF, bltn, frzA, frz, frzL, frz1, pur1, Cells.pur, PV.scal, scal1, runD, rdO, PV.ids, id1, zids, ety, Eff.on, cnd, minb, and1b, ifmax, ifmin, mxv, sugI, strv, w0, w1, w2, wm1, List.take_succ_cons, List.take_zero, List.drop_succ_cons, List.drop_zero]
    repeat' (first | apply And.intro | intro _)
    any_goals (first | (refine hK6 _ ?_; clear hK6) | (first | omega | (simp only [IntKind.wrap_i64] at *; omega) | (simp_all; done) | (simp_all; omega)))
    refine swp_ret ?_
    simp [runs, gd, step1, need, evu, un, opnds, opv, ev, cst, cst1, cstL, getT, getH, putT, onL, nxt, argT, cellsOf, PV.one, thn, inBlk, jmp, fldP, ldP, ldC, live, Cells.len, Cells.get, Cells.w, sug, ldv, bin, ops2, sh2, binv, Tk.agg, stC, apC, rdS, apS, mvL, zp, argsP, idx, fillP, toInts, chunks, mkC, ixS, ixA, oidx, slP, sl0, mxF, bltn, frzA, frz, frzL, frz1, pur1, Cells.pur, PV.scal, scal1, runD, rdO, PV.ids, id1, zids, ety, Eff.on, cnd, minb, and1b, ifmax, ifmin, mxv, sugI, strv, w0, w1, w2, wm1, fnPost, Try.results59, resP, tupOf]

theorem tns_put1_3 (xs : List Int) (num size : Int) (h : 0 ≤ size ∧ size ≤ 31) (hx : xs.length ≤ 17592186043000) : HCall Try.prog 60 [.int .i64 num, .int .i64 size, .ptr 0 0 0 1] [(0, some ⟨.rows 1 [[.ro (.ints .u8 xs)]], true, 45⟩)] 3 (.tup []) [(0, some ⟨.rows 1 [[.ro (.ints .u8 (xs ++ pk num size))]], true, 45⟩)] := by
  obtain ⟨h1, h2, h3⟩ := mk_ok (n := num) h
  have h4 := putL_yes (b := xs) h2
  have h5 := putE_yes h2
  refine hcall_body ty_ok Try.func60 rfl (by rfl) (by simp) ?_
  rw [Try.ntmps60]
  refine swp_draw ty_ok mixed (ms := [0, 0, 0, 4, 12, 30, 0, 127, 255, 511, 511, 1023]) (by kernel_rfl) ?_
  refine runD_cut 7 fun R1 hR1 => ?_
  try simp (maxSteps := 1000000) [runs, gd, step1, need, evu, un, opnds, opv, ev, cst, cst1, cstL, getT, getH, putT, onL, nxt, argT, cellsOf, PV.one, thn, inBlk, jmp, fldP, ldP, ldC, live, Cells.len, Cells.get, Cells.w, sug, ldv, bin, ops2, sh2, binv, Tk.agg, stC, apC, rdS, apS, mvL, zp, argsP, idx, fillP, toInts, chunks, mkC, ixS, ixA, oidx, slP, sl0, mxF, bltn, frzA, frz, frzL, frz1, pur1, Cells.pur, PV.scal, scal1, runD, rdO, PV.ids, id1, zids, ety, Eff.on, cnd, minb, and1b, ifmax, ifmin, mxv, sugI, strv, w0, w1, w2, wm1, h1, h4, h5, List.take_succ_cons, List.take_zero, List.drop_succ_cons, List.drop_zero]
  repeat' (first | apply And.intro | intro _)
  any_goals (first | (refine hR1 _ _ _ _ ?_; clear hR1) | (first | omega | (simp only [IntKind.wrap_i64] at *; omega) | (simp_all; done) | (simp_all; omega)))
  refine runD_cut 1 fun R2 hR2 => ?_
  try simp (maxSteps := 1000000) [runs, gd, step1, need, evu, un, opnds, opv, ev, cst, cst1, cstL, getT, getH, putT, onL, nxt, argT, cellsOf, PV.one, thn, inBlk, jmp, fldP, ldP, ldC, live, Cells.len, Cells.get, Cells.w, sug, ldv, bin, ops2, sh2, binv, Tk.agg, stC, apC, rdS, apS, mvL, zp, argsP, idx, fillP, toInts, chunks, mkC, ixS, ixA, oidx, slP, sl0, mxF, bltn, frzA, frz, frzL, frz1, pur1, Cells.pur, PV.scal, scal1, runD, rdO, PV.ids, id1, zids, ety, Eff.on, cnd, minb, and1b, ifmax, ifmin, mxv, sugI, strv, w0, w1, w2, wm1, h1, h4, h5, List.take_succ_cons, List.take_zero, List.drop_succ_cons, List.drop_zero]
  refine .inl ⟨_, put_ok xs (mkB num size) size hx h3, ?_⟩
  try simp (maxSteps := 1000000) [runs, gd, step1, need, evu, un, opnds, opv, ev, cst, cst1, cstL, getT, getH, putT, onL, nxt, argT, cellsOf, PV.one, thn, inBlk, jmp, fldP, ldP, ldC, live, Cells.len, Cells.get, Cells.w, sug, ldv, bin, ops2, sh2, binv, Tk.agg, stC, apC, rdS, apS, mvL, zp, argsP, idx, fillP, toInts, chunks, mkC, ixS, ixA, oidx, slP, sl0, mxF, bltn, frzA, frz, frzL, frz1, pur1, Cells.pur, PV.scal, scal1, runD, rdO, PV.ids, id1, zids, ety, Eff.on, cnd, minb, and1b, ifmax, ifmin, mxv, sugI, strv, w0, w1, w2, wm1, h1, h4, h5]
  repeat' (first | apply And.intro | intro _)
  any_goals (first | (refine hR2 _ _ _ _ ?_; clear hR2) | (first | omega | (simp only [IntKind.wrap_i64] at *; omega) | (simp_all; done) | (simp_all; omega)))
  try simp (maxSteps := 1000000) [runs, gd, step1, need, evu, un, opnds, opv, ev, cst, cst1, cstL, getT, getH, putT, onL, nxt, argT, cellsOf, PV.one, thn, inBlk, jmp, fldP, ldP, ldC, live, Cells.len, Cells.get, Cells.w, sug, ldv, bin, ops2, sh2, binv, Tk.agg, stC, apC, rdS, apS, mvL, zp, argsP, idx, fillP, toInts, chunks, mkC, ixS, ixA, oidx, slP, sl0, mxF, bltn, frzA, frz, frzL, frz1, pur1, Cells.pur, PV.scal, scal1, runD, rdO, PV.ids, id1, zids, ety, Eff.on, cnd, minb, and1b, ifmax, ifmin, mxv, sugI, strv, w0, w1, w2, wm1, h1, h4, h5, List.take_succ_cons, List.take_zero, List.drop_succ_cons, List.drop_zero]
  simp [runs, gd, step1, need, evu, un, opnds, opv, ev, cst, cst1, cstL, getT, getH, putT, onL, nxt, argT, cellsOf, PV.one, thn, inBlk, jmp, fldP, ldP, ldC, live, Cells.len, Cells.get, Cells.w, sug, ldv, bin, ops2, sh2, binv, Tk.agg, stC, apC, rdS, apS, mvL, zp, argsP, idx, fillP, toInts, chunks, mkC, ixS, ixA, oidx, slP, sl0, mxF, bltn, frzA, frz, frzL, frz1, pur1, Cells.pur, PV.scal, scal1, runD, rdO, PV.ids, id1, zids, ety, Eff.on, cnd, minb, and1b, ifmax, ifmin, mxv, sugI, strv, w0, w1, w2, wm1, fnPostH, PV.inL, inL1, Blk.inL, Cells.inL, put_at, Try.results60, resP, tupOf]
  repeat' apply And.intro
  all_goals (first | kernel_rfl | simp [pk])

theorem tns_put1_4 (xs : List Int) (num size : Int) (h : 0 ≤ size ∧ size ≤ 31) (hx : xs.length ≤ 17592186043000) : HCall Try.prog 60 [.int .i64 num, .int .i64 size, .ptr 0 0 0 1] [(0, some ⟨.rows 1 [[.ro (.ints .u8 xs)]], true, 45⟩)] 4 (.tup []) [(0, some ⟨.rows 1 [[.ro (.ints .u8 (xs ++ pk num size))]], true, 45⟩)] := by
  obtain ⟨h1, h2, h3⟩ := mk_ok (n := num) h
  have h4 := putL_yes (b := xs) h2
  have h5 := putE_yes h2
  refine hcall_body ty_ok Try.func60 rfl (by rfl) (by simp) ?_
  rw [Try.ntmps60]
  refine swp_draw ty_ok mixed (ms := [0, 0, 0, 4, 12, 30, 0, 127, 255, 511, 511, 1023]) (by kernel_rfl) ?_
  refine runD_cut 7 fun R1 hR1 => ?_
  try simp (maxSteps := 1000000) [runs, gd, step1, need, evu, un, opnds, opv, ev, cst, cst1, cstL, getT, getH, putT, onL, nxt, argT, cellsOf, PV.one, thn, inBlk, jmp, fldP, ldP, ldC, live, Cells.len, Cells.get, Cells.w, sug, ldv, bin, ops2, sh2, binv, Tk.agg, stC, apC, rdS, apS, mvL, zp, argsP, idx, fillP, toInts, chunks, mkC, ixS, ixA, oidx, slP, sl0, mxF, bltn, frzA, frz, frzL, frz1, pur1, Cells.pur, PV.scal, scal1, runD, rdO, PV.ids, id1, zids, ety, Eff.on, cnd, minb, and1b, ifmax, ifmin, mxv, sugI, strv, w0, w1, w2, wm1, h1, h4, h5, List.take_succ_cons, List.take_zero, List.drop_succ_cons, List.drop_zero]
  repeat' (first | apply And.intro | intro _)
  any_goals (first | (refine hR1 _ _ _ _ ?_; clear hR1) | (first | omega | (simp only [IntKind.wrap_i64] at *; omega) | (simp_all; done) | (simp_all; omega)))
  refine runD_cut 1 fun R2 hR2 => ?_
  try simp (maxSteps := 1000000) [runs, gd, step1, need, evu, un, opnds, opv, ev, cst, cst1, cstL, getT, getH, putT, onL, nxt, argT, cellsOf, PV.one, thn, inBlk, jmp, fldP, ldP, ldC, live, Cells.len, Cells.get, Cells.w, sug, ldv, bin, ops2, sh2, binv, Tk.agg, stC, apC, rdS, apS, mvL, zp, argsP, idx, fillP, toInts, chunks, mkC, ixS, ixA, oidx, slP, sl0, mxF, bltn, frzA, frz, frzL, frz1, pur1, Cells.pur, PV.scal, scal1, runD, rdO, PV.ids, id1, zids, ety, Eff.on, cnd, minb, and1b, ifmax, ifmin, mxv, sugI, strv, w0, w1, w2, wm1, h1, h4, h5, List.take_succ_cons, List.take_zero, List.drop_succ_cons, List.drop_zero]
  refine .inl ⟨_, put_ok xs (mkB num size) size hx h3, ?_⟩
  try simp (maxSteps := 1000000) [runs, gd, step1, need, evu, un, opnds, opv, ev, cst, cst1, cstL, getT, getH, putT, onL, nxt, argT, cellsOf, PV.one, thn, inBlk, jmp, fldP, ldP, ldC, live, Cells.len, Cells.get, Cells.w, sug, ldv, bin, ops2, sh2, binv, Tk.agg, stC, apC, rdS, apS, mvL, zp, argsP, idx, fillP, toInts, chunks, mkC, ixS, ixA, oidx, slP, sl0, mxF, bltn, frzA, frz, frzL, frz1, pur1, Cells.pur, PV.scal, scal1, runD, rdO, PV.ids, id1, zids, ety, Eff.on, cnd, minb, and1b, ifmax, ifmin, mxv, sugI, strv, w0, w1, w2, wm1, h1, h4, h5]
  repeat' (first | apply And.intro | intro _)
  any_goals (first | (refine hR2 _ _ _ _ ?_; clear hR2) | (first | omega | (simp only [IntKind.wrap_i64] at *; omega) | (simp_all; done) | (simp_all; omega)))
  try simp (maxSteps := 1000000) [runs, gd, step1, need, evu, un, opnds, opv, ev, cst, cst1, cstL, getT, getH, putT, onL, nxt, argT, cellsOf, PV.one, thn, inBlk, jmp, fldP, ldP, ldC, live, Cells.len, Cells.get, Cells.w, sug, ldv, bin, ops2, sh2, binv, Tk.agg, stC, apC, rdS, apS, mvL, zp, argsP, idx, fillP, toInts, chunks, mkC, ixS, ixA, oidx, slP, sl0, mxF, bltn, frzA, frz, frzL, frz1, pur1, Cells.pur, PV.scal, scal1, runD, rdO, PV.ids, id1, zids, ety, Eff.on, cnd, minb, and1b, ifmax, ifmin, mxv, sugI, strv, w0, w1, w2, wm1, h1, h4, h5, List.take_succ_cons, List.take_zero, List.drop_succ_cons, List.drop_zero]
  simp [runs, gd, step1, need, evu, un, opnds, opv, ev, cst, cst1, cstL, getT, getH, putT, onL, nxt, argT, cellsOf, PV.one, thn, inBlk, jmp, fldP, ldP, ldC, live, Cells.len, Cells.get, Cells.w, sug, ldv, bin, ops2, sh2, binv, Tk.agg, stC, apC, rdS, apS, mvL, zp, argsP, idx, fillP, toInts, chunks, mkC, ixS, ixA, oidx, slP, sl0, mxF, bltn, frzA, frz, frzL, frz1, pur1, Cells.pur, PV.scal, scal1, runD, rdO, PV.ids, id1, zids, ety, Eff.on, cnd, minb, and1b, ifmax, ifmin, mxv, sugI, strv, w0, w1, w2, wm1, fnPostH, PV.inL, inL1, Blk.inL, Cells.inL, put_at, Try.results60, resP, tupOf]
  repeat' apply And.intro
  all_goals (first | kernel_rfl | simp [pk])

set_option maxHeartbeats 4000000 in
theorem tnsbits_Put_ok (bs : List Int) (s sh m : Int) (g : List Int) (hx : g.length ≤ 140737488355328) (l : List (List Fl)) (hl : l.length ≤ 140737488355328) (hw : ∀ w ∈ l, w.length ≤ 140737488355328 ∧ ∀ f ∈ w, f.co.length ≤ 140737488355328) (hb : bs.length ≤ 1000000) : PCall Try.prog 23 [.ro (.ints .u8 bs), .agg [.int .u8 s, .int .u8 sh, .int .i64 m, .ro (.ints .i64 g)], .ro (.rows 1 (l.map fun w => [.ro (.rows 5 (w.map Fl.row))]))] (.tup [.ro (.ints .u8 (if chT s sh m g l = 0 then bs ++ tB s l l.length else [])), .int .i64 (chT s sh m g l)]) := by
  refine pcall_body ty_ok Try.func23 rfl (by rfl) (by simp) ?_
  rw [Try.ntmps23]
  refine swp_seq fun K1 hK1 => ?_
  refine swp_region ty_ok ?_
  try simp (maxSteps := 1000000) [runs, gd, step1, need, evu, un, opnds, opv, ev, cst, cst1, cstL, getT, getH, putT, onL, nxt, argT, cellsOf, PV.one, thn, inBlk, jmp, fldP, ldP, ldC, live, Cells.len, Cells.get, Cells.w, sug, ldv, bin, ops2, sh2, binv, Tk.agg, stC, apC, rdS, apS, mvL, zp, argsP, idx, fillP, toInts, chunks, mkC, ixS, ixA, oidx, slP, sl0, mxF, bltn, frzA, frz, frzL, frz1, pur1, Cells.pur, PV.scal, scal1, runD, rdO, PV.ids, id1, zids, ety, Eff.on, cnd, minb, and1b, ifmax, ifmin, mxv, sugI, strv, w0, w1, w2, wm1, szP]
  repeat' (first | apply And.intro | intro _)
  any_goals (first | (refine hK1 _ ?_; clear hK1) | (first | omega | (simp only [IntKind.wrap_i64] at *; omega) | (simp_all; done) | (simp_all; omega)))
  refine swp_seq fun K2 hK2 => ?_
  refine swp_seq fun K3 hK3 => ?_
  refine swp_region ty_ok ?_
  refine runs_cut 2 fun R4 hR4 => ?_
  try simp (maxSteps := 1000000) [runs, gd, step1, need, evu, un, opnds, opv, ev, cst, cst1, cstL, getT, getH, putT, onL, nxt, argT, cellsOf, PV.one, thn, inBlk, jmp, fldP, ldP, ldC, live, Cells.len, Cells.get, Cells.w, sug, ldv, bin, ops2, sh2, binv, Tk.agg, stC, apC, rdS, apS, mvL, zp, argsP, idx, fillP, toInts, chunks, mkC, ixS, ixA, oidx, slP, sl0, mxF, bltn, frzA, frz, frzL, frz1, pur1, Cells.pur, PV.scal, scal1, runD, rdO, PV.ids, id1, zids, ety, Eff.on, cnd, minb, and1b, ifmax, ifmin, mxv, sugI, strv, w0, w1, w2, wm1, szP, List.take_succ_cons, List.take_zero, List.drop_succ_cons, List.drop_zero]
  repeat' (first | apply And.intro | intro _)
  any_goals (first | (refine hR4 _ ?_; clear hR4) | (first | omega | (simp only [IntKind.wrap_i64] at *; omega) | (simp_all; done) | (simp_all; omega)))
  refine runs_cut 1 fun R5 hR5 => ?_
  try simp (maxSteps := 1000000) [runs, gd, step1, need, evu, un, opnds, opv, ev, cst, cst1, cstL, getT, getH, putT, onL, nxt, argT, cellsOf, PV.one, thn, inBlk, jmp, fldP, ldP, ldC, live, Cells.len, Cells.get, Cells.w, sug, ldv, bin, ops2, sh2, binv, Tk.agg, stC, apC, rdS, apS, mvL, zp, argsP, idx, fillP, toInts, chunks, mkC, ixS, ixA, oidx, slP, sl0, mxF, bltn, frzA, frz, frzL, frz1, pur1, Cells.pur, PV.scal, scal1, runD, rdO, PV.ids, id1, zids, ety, Eff.on, cnd, minb, and1b, ifmax, ifmin, mxv, sugI, strv, w0, w1, w2, wm1, szP, List.take_succ_cons, List.take_zero, List.drop_succ_cons, List.drop_zero]
  refine .inl ⟨_, tnsbits_Check_ok s sh m g hx l hl hw, ?_⟩
  try simp (maxSteps := 1000000) [runs, gd, step1, need, evu, un, opnds, opv, ev, cst, cst1, cstL, getT, getH, putT, onL, nxt, argT, cellsOf, PV.one, thn, inBlk, jmp, fldP, ldP, ldC, live, Cells.len, Cells.get, Cells.w, sug, ldv, bin, ops2, sh2, binv, Tk.agg, stC, apC, rdS, apS, mvL, zp, argsP, idx, fillP, toInts, chunks, mkC, ixS, ixA, oidx, slP, sl0, mxF, bltn, frzA, frz, frzL, frz1, pur1, Cells.pur, PV.scal, scal1, runD, rdO, PV.ids, id1, zids, ety, Eff.on, cnd, minb, and1b, ifmax, ifmin, mxv, sugI, strv, w0, w1, w2, wm1, szP]
  repeat' (first | apply And.intro | intro _)
  any_goals (first | (refine hR5 _ ?_; clear hR5) | (first | omega | (simp only [IntKind.wrap_i64] at *; omega) | (simp_all; done) | (simp_all; omega)))
  try simp (maxSteps := 1000000) [runs, gd, step1, need, evu, un, opnds, opv, ev, cst, cst1, cstL, getT, getH, putT, onL, nxt, argT, cellsOf, PV.one, thn, inBlk, jmp, fldP, ldP, ldC, live, Cells.len, Cells.get, Cells.w, sug, ldv, bin, ops2, sh2, binv, Tk.agg, stC, apC, rdS, apS, mvL, zp, argsP, idx, fillP, toInts, chunks, mkC, ixS, ixA, oidx, slP, sl0, mxF, bltn, frzA, frz, frzL, frz1, pur1, Cells.pur, PV.scal, scal1, runD, rdO, PV.ids, id1, zids, ety, Eff.on, cnd, minb, and1b, ifmax, ifmin, mxv, sugI, strv, w0, w1, w2, wm1, szP, List.take_succ_cons, List.take_zero, List.drop_succ_cons, List.drop_zero]
  repeat' (first | apply And.intro | intro _)
  any_goals (first | (refine hK3 _ ?_; clear hK3) | (first | omega | (simp only [IntKind.wrap_i64] at *; omega) | (simp_all; done) | (simp_all; omega)))
  refine swp_seq fun K6 hK6 => ?_
  refine swp_region ty_ok ?_
  try simp (maxSteps := 1000000) [runs, gd, step1, need, evu, un, opnds, opv, ev, cst, cst1, cstL, getT, getH, putT, onL, nxt, argT, cellsOf, PV.one, thn, inBlk, jmp, fldP, ldP, ldC, live, Cells.len, Cells.get, Cells.w, sug, ldv, bin, ops2, sh2, binv, Tk.agg, stC, apC, rdS, apS, mvL, zp, argsP, idx, fillP, toInts, chunks, mkC, ixS, ixA, oidx, slP, sl0, mxF, bltn, frzA, frz, frzL, frz1, pur1, Cells.pur, PV.scal, scal1, runD, rdO, PV.ids, id1, zids, ety, Eff.on, cnd, minb, and1b, ifmax, ifmin, mxv, sugI, strv, w0, w1, w2, wm1, szP]
  repeat' (first | apply And.intro | intro _)
  any_goals (first | (refine hK6 _ ?_; clear hK6) | (first | omega | (simp only [IntKind.wrap_i64] at *; omega) | (simp_all; done) | (simp_all; omega)))
  refine swp_if fun C7 hC7 => ?_
  try simp (maxSteps := 1000000) [runs, gd, step1, need, evu, un, opnds, opv, ev, cst, cst1, cstL, getT, getH, putT, onL, nxt, argT, cellsOf, PV.one, thn, inBlk, jmp, fldP, ldP, ldC, live, Cells.len, Cells.get, Cells.w, sug, ldv, bin, ops2, sh2, binv, Tk.agg, stC, apC, rdS, apS, mvL, zp, argsP, idx, fillP, toInts, chunks, mkC, ixS, ixA, oidx, slP, sl0, mxF, bltn, frzA, frz, frzL, frz1, pur1, Cells.pur, PV.scal, scal1, runD, rdO, PV.ids, id1, zids, ety, Eff.on, cnd, minb, and1b, ifmax, ifmin, mxv, sugI, strv, w0, w1, w2, wm1, szP]
  refine hC7 _ (fun hc7 => ?_) (fun hc7 => ?_)
  · clear hC7
    try simp at hc7
    refine swp_seq fun K8 hK8 => ?_
    refine swp_region ty_ok ?_
    try simp (maxSteps := 1000000) [runs, gd, step1, need, evu, un, opnds, opv, ev, cst, cst1, cstL, getT, getH, putT, onL, nxt, argT, cellsOf, PV.one, thn, inBlk, jmp, fldP, ldP, ldC, live, Cells.len, Cells.get, Cells.w, sug, ldv, bin, ops2, sh2, binv, Tk.agg, stC, apC, rdS, apS, mvL, zp, argsP, idx, fillP, toInts, chunks, mkC, ixS, ixA, oidx, slP, sl0, mxF, bltn, frzA, frz, frzL, frz1, pur1, Cells.pur, PV.scal, scal1, runD, rdO, PV.ids, id1, zids, ety, Eff.on, cnd, minb, and1b, ifmax, ifmin, mxv, sugI, strv, w0, w1, w2, wm1, szP]
    repeat' (first | apply And.intro | intro _)
    any_goals (first | (refine hK8 _ ?_; clear hK8) | (first | omega | (simp only [IntKind.wrap_i64] at *; omega) | (simp_all; done) | (simp_all; omega)))
    refine swp_ret ?_
    simp [runs, gd, step1, need, evu, un, opnds, opv, ev, cst, cst1, cstL, getT, getH, putT, onL, nxt, argT, cellsOf, PV.one, thn, inBlk, jmp, fldP, ldP, ldC, live, Cells.len, Cells.get, Cells.w, sug, ldv, bin, ops2, sh2, binv, Tk.agg, stC, apC, rdS, apS, mvL, zp, argsP, idx, fillP, toInts, chunks, mkC, ixS, ixA, oidx, slP, sl0, mxF, bltn, frzA, frz, frzL, frz1, pur1, Cells.pur, PV.scal, scal1, runD, rdO, PV.ids, id1, zids, ety, Eff.on, cnd, minb, and1b, ifmax, ifmin, mxv, sugI, strv, w0, w1, w2, wm1, fnPost, Try.results23, resP, tupOf]
    exact fun h => absurd h (by assumption)
  · clear hC7
    try simp at hc7
    refine swp_skip ?_
    simp only [thn, inBlk]
    refine hK2 _ ?_; clear hK2
    refine swp_seq fun K9 hK9 => ?_
    obtain ⟨z1, z2, z3, z4⟩ := chT_zero (by assumption : chT s sh m g l = 0)
    obtain ⟨y0, y1, y2, y3, y4⟩ := sz_bd s
    refine swp_region ty_ok ?_
    refine runs_cut 1 fun R10 hR10 => ?_
    try simp (maxSteps := 1000000) [runs, gd, step1, need, evu, un, opnds, opv, ev, cst, cst1, cstL, getT, getH, putT, onL, nxt, argT, cellsOf, PV.one, thn, inBlk, jmp, fldP, ldP, ldC, live, Cells.len, Cells.get, Cells.w, sug, ldv, bin, ops2, sh2, binv, Tk.agg, stC, apC, rdS, apS, mvL, zp, argsP, idx, fillP, toInts, chunks, mkC, ixS, ixA, oidx, slP, sl0, mxF, bltn, frzA, frz, frzL, frz1, pur1, Cells.pur, PV.scal, scal1, runD, rdO, PV.ids, id1, zids, ety, Eff.on, cnd, minb, and1b, ifmax, ifmin, mxv, sugI, strv, w0, w1, w2, wm1, szP, List.take_succ_cons, List.take_zero, List.drop_succ_cons, List.drop_zero]
    repeat' (first | apply And.intro | intro _)
    any_goals (first | (refine hR10 _ ?_; clear hR10) | (first | omega | (simp only [IntKind.wrap_i64] at *; omega) | (simp_all; done) | (simp_all; omega)))
    refine runs_cut 1 fun R11 hR11 => ?_
    try simp (maxSteps := 1000000) [runs, gd, step1, need, evu, un, opnds, opv, ev, cst, cst1, cstL, getT, getH, putT, onL, nxt, argT, cellsOf, PV.one, thn, inBlk, jmp, fldP, ldP, ldC, live, Cells.len, Cells.get, Cells.w, sug, ldv, bin, ops2, sh2, binv, Tk.agg, stC, apC, rdS, apS, mvL, zp, argsP, idx, fillP, toInts, chunks, mkC, ixS, ixA, oidx, slP, sl0, mxF, bltn, frzA, frz, frzL, frz1, pur1, Cells.pur, PV.scal, scal1, runD, rdO, PV.ids, id1, zids, ety, Eff.on, cnd, minb, and1b, ifmax, ifmin, mxv, sugI, strv, w0, w1, w2, wm1, szP, List.take_succ_cons, List.take_zero, List.drop_succ_cons, List.drop_zero]
    refine .inl ⟨_, clone_b bs (by omega), ?_⟩
    try simp (maxSteps := 1000000) [runs, gd, step1, need, evu, un, opnds, opv, ev, cst, cst1, cstL, getT, getH, putT, onL, nxt, argT, cellsOf, PV.one, thn, inBlk, jmp, fldP, ldP, ldC, live, Cells.len, Cells.get, Cells.w, sug, ldv, bin, ops2, sh2, binv, Tk.agg, stC, apC, rdS, apS, mvL, zp, argsP, idx, fillP, toInts, chunks, mkC, ixS, ixA, oidx, slP, sl0, mxF, bltn, frzA, frz, frzL, frz1, pur1, Cells.pur, PV.scal, scal1, runD, rdO, PV.ids, id1, zids, ety, Eff.on, cnd, minb, and1b, ifmax, ifmin, mxv, sugI, strv, w0, w1, w2, wm1, szP]
    repeat' (first | apply And.intro | intro _)
    any_goals (first | (refine hR11 _ ?_; clear hR11) | (first | omega | (simp only [IntKind.wrap_i64] at *; omega) | (simp_all; done) | (simp_all; omega)))
    try simp (maxSteps := 1000000) [runs, gd, step1, need, evu, un, opnds, opv, ev, cst, cst1, cstL, getT, getH, putT, onL, nxt, argT, cellsOf, PV.one, thn, inBlk, jmp, fldP, ldP, ldC, live, Cells.len, Cells.get, Cells.w, sug, ldv, bin, ops2, sh2, binv, Tk.agg, stC, apC, rdS, apS, mvL, zp, argsP, idx, fillP, toInts, chunks, mkC, ixS, ixA, oidx, slP, sl0, mxF, bltn, frzA, frz, frzL, frz1, pur1, Cells.pur, PV.scal, scal1, runD, rdO, PV.ids, id1, zids, ety, Eff.on, cnd, minb, and1b, ifmax, ifmin, mxv, sugI, strv, w0, w1, w2, wm1, szP, List.take_succ_cons, List.take_zero, List.drop_succ_cons, List.drop_zero]
    repeat' (first | apply And.intro | intro _)
    any_goals (first | (refine hK9 _ ?_; clear hK9) | (first | omega | (simp only [IntKind.wrap_i64] at *; omega) | (simp_all; done) | (simp_all; omega)))
    refine swp_seq fun K12 hK12 => ?_
    refine swp_region ty_ok ?_
    try simp (maxSteps := 1000000) [runs, gd, step1, need, evu, un, opnds, opv, ev, cst, cst1, cstL, getT, getH, putT, onL, nxt, argT, cellsOf, PV.one, thn, inBlk, jmp, fldP, ldP, ldC, live, Cells.len, Cells.get, Cells.w, sug, ldv, bin, ops2, sh2, binv, Tk.agg, stC, apC, rdS, apS, mvL, zp, argsP, idx, fillP, toInts, chunks, mkC, ixS, ixA, oidx, slP, sl0, mxF, bltn, frzA, frz, frzL, frz1, pur1, Cells.pur, PV.scal, scal1, runD, rdO, PV.ids, id1, zids, ety, Eff.on, cnd, minb, and1b, ifmax, ifmin, mxv, sugI, strv, w0, w1, w2, wm1, szP]
    repeat' (first | apply And.intro | intro _)
    any_goals (first | (refine hK12 _ ?_; clear hK12) | (first | omega | (simp only [IntKind.wrap_i64] at *; omega) | (simp_all; done) | (simp_all; omega)))
    refine swp_seq fun K13 hK13 => ?_
    refine swp_region ty_ok ?_
    refine runs_cut 1 fun R14 hR14 => ?_
    try simp (maxSteps := 1000000) [runs, gd, step1, need, evu, un, opnds, opv, ev, cst, cst1, cstL, getT, getH, putT, onL, nxt, argT, cellsOf, PV.one, thn, inBlk, jmp, fldP, ldP, ldC, live, Cells.len, Cells.get, Cells.w, sug, ldv, bin, ops2, sh2, binv, Tk.agg, stC, apC, rdS, apS, mvL, zp, argsP, idx, fillP, toInts, chunks, mkC, ixS, ixA, oidx, slP, sl0, mxF, bltn, frzA, frz, frzL, frz1, pur1, Cells.pur, PV.scal, scal1, runD, rdO, PV.ids, id1, zids, ety, Eff.on, cnd, minb, and1b, ifmax, ifmin, mxv, sugI, strv, w0, w1, w2, wm1, szP, List.take_succ_cons, List.take_zero, List.drop_succ_cons, List.drop_zero]
    repeat' (first | apply And.intro | intro _)
    any_goals (first | (refine hR14 _ ?_; clear hR14) | (first | omega | (simp only [IntKind.wrap_i64] at *; omega) | (simp_all; done) | (simp_all; omega)))
    refine runs_cut 1 fun R15 hR15 => ?_
    try simp (maxSteps := 1000000) [runs, gd, step1, need, evu, un, opnds, opv, ev, cst, cst1, cstL, getT, getH, putT, onL, nxt, argT, cellsOf, PV.one, thn, inBlk, jmp, fldP, ldP, ldC, live, Cells.len, Cells.get, Cells.w, sug, ldv, bin, ops2, sh2, binv, Tk.agg, stC, apC, rdS, apS, mvL, zp, argsP, idx, fillP, toInts, chunks, mkC, ixS, ixA, oidx, slP, sl0, mxF, bltn, frzA, frz, frzL, frz1, pur1, Cells.pur, PV.scal, scal1, runD, rdO, PV.ids, id1, zids, ety, Eff.on, cnd, minb, and1b, ifmax, ifmin, mxv, sugI, strv, w0, w1, w2, wm1, szP, List.take_succ_cons, List.take_zero, List.drop_succ_cons, List.drop_zero]
    refine .inl ⟨_, tnsbits_sizes_ok s sh m g, ?_⟩
    try simp (maxSteps := 1000000) [runs, gd, step1, need, evu, un, opnds, opv, ev, cst, cst1, cstL, getT, getH, putT, onL, nxt, argT, cellsOf, PV.one, thn, inBlk, jmp, fldP, ldP, ldC, live, Cells.len, Cells.get, Cells.w, sug, ldv, bin, ops2, sh2, binv, Tk.agg, stC, apC, rdS, apS, mvL, zp, argsP, idx, fillP, toInts, chunks, mkC, ixS, ixA, oidx, slP, sl0, mxF, bltn, frzA, frz, frzL, frz1, pur1, Cells.pur, PV.scal, scal1, runD, rdO, PV.ids, id1, zids, ety, Eff.on, cnd, minb, and1b, ifmax, ifmin, mxv, sugI, strv, w0, w1, w2, wm1, szP]
    repeat' (first | apply And.intro | intro _)
    any_goals (first | (refine hR15 _ ?_; clear hR15) | (first | omega | (simp only [IntKind.wrap_i64] at *; omega) | (simp_all; done) | (simp_all; omega)))
    try simp (maxSteps := 1000000) [runs, gd, step1, need, evu, un, opnds, opv, ev, cst, cst1, cstL, getT, getH, putT, onL, nxt, argT, cellsOf, PV.one, thn, inBlk, jmp, fldP, ldP, ldC, live, Cells.len, Cells.get, Cells.w, sug, ldv, bin, ops2, sh2, binv, Tk.agg, stC, apC, rdS, apS, mvL, zp, argsP, idx, fillP, toInts, chunks, mkC, ixS, ixA, oidx, slP, sl0, mxF, bltn, frzA, frz, frzL, frz1, pur1, Cells.pur, PV.scal, scal1, runD, rdO, PV.ids, id1, zids, ety, Eff.on, cnd, minb, and1b, ifmax, ifmin, mxv, sugI, strv, w0, w1, w2, wm1, szP, List.take_succ_cons, List.take_zero, List.drop_succ_cons, List.drop_zero]
    repeat' (first | apply And.intro | intro _)
    any_goals (first | (refine hK13 _ ?_; clear hK13) | (first | omega | (simp only [IntKind.wrap_i64] at *; omega) | (simp_all; done) | (simp_all; omega)))
    refine swp_seq fun K16 hK16 => ?_
    refine swp_seq fun K17 hK17 => ?_
    refine swp_region ty_ok ?_
    try simp (maxSteps := 1000000) [runs, gd, step1, need, evu, un, opnds, opv, ev, cst, cst1, cstL, getT, getH, putT, onL, nxt, argT, cellsOf, PV.one, thn, inBlk, jmp, fldP, ldP, ldC, live, Cells.len, Cells.get, Cells.w, sug, ldv, bin, ops2, sh2, binv, Tk.agg, stC, apC, rdS, apS, mvL, zp, argsP, idx, fillP, toInts, chunks, mkC, ixS, ixA, oidx, slP, sl0, mxF, bltn, frzA, frz, frzL, frz1, pur1, Cells.pur, PV.scal, scal1, runD, rdO, PV.ids, id1, zids, ety, Eff.on, cnd, minb, and1b, ifmax, ifmin, mxv, sugI, strv, w0, w1, w2, wm1, szP]
    repeat' (first | apply And.intro | intro _)
    any_goals (first | (refine hK17 _ ?_; clear hK17) | (first | omega | (simp only [IntKind.wrap_i64] at *; omega) | (simp_all; done) | (simp_all; omega)))
    refine swp_block ?_
    refine swp_loop 3 (fun m_ s_ => ∃ (k : Nat), (k ≤ l.length) ∧ s_ = ⟨[(3, .ptr 0 0 0 1), (9, .fn 60 [.ptr 0 0 0 1]), (10, .ptr 2 0 0 1), (30, .ro (.rows 1 (l.map fun w => [.ro (.rows 5 (w.map Fl.row))]))), (31, .int .i64 (l.length : Nat)), (32, .int .i64 (k : Nat))], [(0, some ⟨.rows 1 [[.ro (.ints .u8 (bs ++ tB s l k))]], true, 45⟩), (2, some ⟨.rows 5 [[.int .i64 (sz0 s), .int .i64 (sz1 s), .int .i64 (sz2 s), .int .i64 (sz3 s), .int .i64 (sz4 s)]], true, 86⟩)], 3⟩ ∧ m_ = l.length - k) _ ⟨[(3, .ptr 0 0 0 1), (9, .fn 60 [.ptr 0 0 0 1]), (10, .ptr 2 0 0 1), (30, .ro (.rows 1 (l.map fun w => [.ro (.rows 5 (w.map Fl.row))]))), (31, .int .i64 (l.length : Nat)), (32, .int .i64 (0 : Nat))], [(0, some ⟨.rows 1 [[.ro (.ints .u8 (bs ++ tB s l 0))]], true, 45⟩), (2, some ⟨.rows 5 [[.int .i64 (sz0 s), .int .i64 (sz1 s), .int .i64 (sz2 s), .int .i64 (sz3 s), .int .i64 (sz4 s)]], true, 86⟩)], 3⟩ ⟨by simp [getT, PV.lo, lo1], by simp [getH, Blk.lo, Cells.lo, lo1, tB], rfl, by omega⟩ ⟨(0), by (first | omega | (simp only [IntKind.wrap_i64] at *; omega) | (simp_all; done) | (simp_all; omega)), rfl, rfl⟩ ?_
    rintro m_ s_ ⟨k, hL18_0, rfl, rfl⟩ KL18 hL18
    have hkw : IntKind.i64.wrap ((k : Int) + 1) = (((k + 1 : Nat)) : Int) := wnext (by omega)
    have htl := tB_len z4 k
    refine swp_seq fun K19 hK19 => ?_
    refine swp_region ty_ok ?_
    try simp (maxSteps := 1000000) [runs, gd, step1, need, evu, un, opnds, opv, ev, cst, cst1, cstL, getT, getH, putT, onL, nxt, argT, cellsOf, PV.one, thn, inBlk, jmp, fldP, ldP, ldC, live, Cells.len, Cells.get, Cells.w, sug, ldv, bin, ops2, sh2, binv, Tk.agg, stC, apC, rdS, apS, mvL, zp, argsP, idx, fillP, toInts, chunks, mkC, ixS, ixA, oidx, slP, sl0, mxF, bltn, frzA, frz, frzL, frz1, pur1, Cells.pur, PV.scal, scal1, runD, rdO, PV.ids, id1, zids, ety, Eff.on, cnd, minb, and1b, ifmax, ifmin, mxv, sugI, strv, w0, w1, w2, wm1, szP]
    repeat' (first | apply And.intro | intro _)
    any_goals (first | (refine hK19 _ ?_; clear hK19) | (first | omega | (simp only [IntKind.wrap_i64] at *; omega) | (simp_all; done) | (simp_all; omega)))
    refine swp_seq fun K20 hK20 => ?_
    refine swp_if fun C21 hC21 => ?_
    try simp (maxSteps := 1000000) [runs, gd, step1, need, evu, un, opnds, opv, ev, cst, cst1, cstL, getT, getH, putT, onL, nxt, argT, cellsOf, PV.one, thn, inBlk, jmp, fldP, ldP, ldC, live, Cells.len, Cells.get, Cells.w, sug, ldv, bin, ops2, sh2, binv, Tk.agg, stC, apC, rdS, apS, mvL, zp, argsP, idx, fillP, toInts, chunks, mkC, ixS, ixA, oidx, slP, sl0, mxF, bltn, frzA, frz, frzL, frz1, pur1, Cells.pur, PV.scal, scal1, runD, rdO, PV.ids, id1, zids, ety, Eff.on, cnd, minb, and1b, ifmax, ifmin, mxv, sugI, strv, w0, w1, w2, wm1, szP]
    refine hC21 _ (fun hc21 => ?_) (fun hc21 => ?_)
    · clear hC21
      try simp at hc21
      refine swp_skip ?_
      simp only [thn, inBlk]
      refine hK20 _ ?_; clear hK20
      refine swp_seq fun K22 hK22 => ?_
      refine swp_block ?_
      refine swp_seq fun K23 hK23 => ?_
      have hrow := w_at (l := l) (k := k) (by omega)
      have hmem : l[k]?.getD [] ∈ l := mem_at (by omega)
      obtain ⟨b1, b2⟩ := bad_ok (z4 _ hmem)
      have b3 := hd_len s (l[k]?.getD [])
      have hsc := tB_succ s l k (by omega)
      refine swp_region ty_ok ?_
      try simp (maxSteps := 1000000) [runs, gd, step1, need, evu, un, opnds, opv, ev, cst, cst1, cstL, getT, getH, putT, onL, nxt, argT, cellsOf, PV.one, thn, inBlk, jmp, fldP, ldP, ldC, live, Cells.len, Cells.get, Cells.w, sug, ldv, bin, ops2, sh2, binv, Tk.agg, stC, apC, rdS, apS, mvL, zp, argsP, idx, fillP, toInts, chunks, mkC, ixS, ixA, oidx, slP, sl0, mxF, bltn, frzA, frz, frzL, frz1, pur1, Cells.pur, PV.scal, scal1, runD, rdO, PV.ids, id1, zids, ety, Eff.on, cnd, minb, and1b, ifmax, ifmin, mxv, sugI, strv, w0, w1, w2, wm1, szP, hrow]
      repeat' (first | apply And.intro | intro _)
      any_goals (first | (refine hK23 _ ?_; clear hK23) | (first | omega | (simp only [IntKind.wrap_i64] at *; omega) | (simp_all; done) | (simp_all; omega)))
      refine swp_seq fun K24 hK24 => ?_
      refine swp_region ty_ok ?_
      refine runs_cut 5 fun R25 hR25 => ?_
      try simp (maxSteps := 1000000) [runs, gd, step1, need, evu, un, opnds, opv, ev, cst, cst1, cstL, getT, getH, putT, onL, nxt, argT, cellsOf, PV.one, thn, inBlk, jmp, fldP, ldP, ldC, live, Cells.len, Cells.get, Cells.w, sug, ldv, bin, ops2, sh2, binv, Tk.agg, stC, apC, rdS, apS, mvL, zp, argsP, idx, fillP, toInts, chunks, mkC, ixS, ixA, oidx, slP, sl0, mxF, bltn, frzA, frz, frzL, frz1, pur1, Cells.pur, PV.scal, scal1, runD, rdO, PV.ids, id1, zids, ety, Eff.on, cnd, minb, and1b, ifmax, ifmin, mxv, sugI, strv, w0, w1, w2, wm1, szP, List.take_succ_cons, List.take_zero, List.drop_succ_cons, List.drop_zero]
      repeat' (first | apply And.intro | intro _)
      any_goals (first | (refine hR25 _ ?_; clear hR25) | (first | omega | (simp only [IntKind.wrap_i64] at *; omega) | (simp_all; done) | (simp_all; omega)))
      try simp (maxSteps := 1000000) [runs, gd, step1, need, evu, un, opnds, opv, ev, cst, cst1, cstL, getT, getH, putT, onL, nxt, argT, cellsOf, PV.one, thn, inBlk, jmp, fldP, ldP, ldC, live, Cells.len, Cells.get, Cells.w, sug, ldv, bin, ops2, sh2, binv, Tk.agg, stC, apC, rdS, apS, mvL, zp, argsP, idx, fillP, toInts, chunks, mkC, ixS, ixA, oidx, slP, sl0, mxF, bltn, frzA, frz, frzL, frz1, pur1, Cells.pur, PV.scal, scal1, runD, rdO, PV.ids, id1, zids, ety, Eff.on, cnd, minb, and1b, ifmax, ifmin, mxv, sugI, strv, w0, w1, w2, wm1, szP, List.take_succ_cons, List.take_zero, List.drop_succ_cons, List.drop_zero]
      refine .inr (hcl_mk (tns_put1_3 (bs ++ tB s l k) ((l[k]?.getD []).length : Nat) (sz0 s) (by omega) (by simp [pk_len]; omega)) (by simp [PV.ids, id1, getH, Blk.inL, Cells.inL, inL1]) (by simp [PV.inL, inL1]) (by simp) ?_)
      try simp (maxSteps := 1000000) [runs, gd, step1, need, evu, un, opnds, opv, ev, cst, cst1, cstL, getT, getH, putT, onL, nxt, argT, cellsOf, PV.one, thn, inBlk, jmp, fldP, ldP, ldC, live, Cells.len, Cells.get, Cells.w, sug, ldv, bin, ops2, sh2, binv, Tk.agg, stC, apC, rdS, apS, mvL, zp, argsP, idx, fillP, toInts, chunks, mkC, ixS, ixA, oidx, slP, sl0, mxF, bltn, frzA, frz, frzL, frz1, pur1, Cells.pur, PV.scal, scal1, runD, rdO, PV.ids, id1, zids, ety, Eff.on, cnd, minb, and1b, ifmax, ifmin, mxv, sugI, strv, w0, w1, w2, wm1, szP]
      repeat' (first | apply And.intro | intro _)
      any_goals (first | (refine hK24 _ ?_; clear hK24) | (first | omega | (simp only [IntKind.wrap_i64] at *; omega) | (simp_all; done) | (simp_all; omega)))
      refine swp_seq fun K26 hK26 => ?_
      refine swp_seq fun K27 hK27 => ?_
      refine swp_region ty_ok ?_
      try simp (maxSteps := 1000000) [runs, gd, step1, need, evu, un, opnds, opv, ev, cst, cst1, cstL, getT, getH, putT, onL, nxt, argT, cellsOf, PV.one, thn, inBlk, jmp, fldP, ldP, ldC, live, Cells.len, Cells.get, Cells.w, sug, ldv, bin, ops2, sh2, binv, Tk.agg, stC, apC, rdS, apS, mvL, zp, argsP, idx, fillP, toInts, chunks, mkC, ixS, ixA, oidx, slP, sl0, mxF, bltn, frzA, frz, frzL, frz1, pur1, Cells.pur, PV.scal, scal1, runD, rdO, PV.ids, id1, zids, ety, Eff.on, cnd, minb, and1b, ifmax, ifmin, mxv, sugI, strv, w0, w1, w2, wm1, szP]
      repeat' (first | apply And.intro | intro _)
      any_goals (first | (refine hK27 _ ?_; clear hK27) | (first | omega | (simp only [IntKind.wrap_i64] at *; omega) | (simp_all; done) | (simp_all; omega)))
      refine swp_if fun C28 hC28 => ?_
      try simp (maxSteps := 1000000) [runs, gd, step1, need, evu, un, opnds, opv, ev, cst, cst1, cstL, getT, getH, putT, onL, nxt, argT, cellsOf, PV.one, thn, inBlk, jmp, fldP, ldP, ldC, live, Cells.len, Cells.get, Cells.w, sug, ldv, bin, ops2, sh2, binv, Tk.agg, stC, apC, rdS, apS, mvL, zp, argsP, idx, fillP, toInts, chunks, mkC, ixS, ixA, oidx, slP, sl0, mxF, bltn, frzA, frz, frzL, frz1, pur1, Cells.pur, PV.scal, scal1, runD, rdO, PV.ids, id1, zids, ety, Eff.on, cnd, minb, and1b, ifmax, ifmin, mxv, sugI, strv, w0, w1, w2, wm1, szP]
      refine hC28 _ (fun hc28 => ?_) (fun hc28 => ?_)
      · clear hC28
        try simp at hc28
        have hrow0 := row_at (ws := (l[k]?.getD [])) (k := 0) (by omega)
        refine swp_region ty_ok ?_
        refine runs_cut 5 fun R29 hR29 => ?_
        try simp (maxSteps := 1000000) [runs, gd, step1, need, evu, un, opnds, opv, ev, cst, cst1, cstL, getT, getH, putT, onL, nxt, argT, cellsOf, PV.one, thn, inBlk, jmp, fldP, ldP, ldC, live, Cells.len, Cells.get, Cells.w, sug, ldv, bin, ops2, sh2, binv, Tk.agg, stC, apC, rdS, apS, mvL, zp, argsP, idx, fillP, toInts, chunks, mkC, ixS, ixA, oidx, slP, sl0, mxF, bltn, frzA, frz, frzL, frz1, pur1, Cells.pur, PV.scal, scal1, runD, rdO, PV.ids, id1, zids, ety, Eff.on, cnd, minb, and1b, ifmax, ifmin, mxv, sugI, strv, w0, w1, w2, wm1, szP, hrow0, List.take_succ_cons, List.take_zero, List.drop_succ_cons, List.drop_zero]
        repeat' (first | apply And.intro | intro _)
        any_goals (first | (refine hR29 _ ?_; clear hR29) | (first | omega | (simp only [IntKind.wrap_i64] at *; omega) | (simp_all; done) | (simp_all; omega)))
        refine runs_cut 1 fun R30 hR30 => ?_
        try simp (maxSteps := 1000000) [runs, gd, step1, need, evu, un, opnds, opv, ev, cst, cst1, cstL, getT, getH, putT, onL, nxt, argT, cellsOf, PV.one, thn, inBlk, jmp, fldP, ldP, ldC, live, Cells.len, Cells.get, Cells.w, sug, ldv, bin, ops2, sh2, binv, Tk.agg, stC, apC, rdS, apS, mvL, zp, argsP, idx, fillP, toInts, chunks, mkC, ixS, ixA, oidx, slP, sl0, mxF, bltn, frzA, frz, frzL, frz1, pur1, Cells.pur, PV.scal, scal1, runD, rdO, PV.ids, id1, zids, ety, Eff.on, cnd, minb, and1b, ifmax, ifmin, mxv, sugI, strv, w0, w1, w2, wm1, szP, hrow0, List.take_succ_cons, List.take_zero, List.drop_succ_cons, List.drop_zero]
        refine .inl ⟨_, tnsbits_bit_ok _, ?_⟩
        try simp (maxSteps := 1000000) [runs, gd, step1, need, evu, un, opnds, opv, ev, cst, cst1, cstL, getT, getH, putT, onL, nxt, argT, cellsOf, PV.one, thn, inBlk, jmp, fldP, ldP, ldC, live, Cells.len, Cells.get, Cells.w, sug, ldv, bin, ops2, sh2, binv, Tk.agg, stC, apC, rdS, apS, mvL, zp, argsP, idx, fillP, toInts, chunks, mkC, ixS, ixA, oidx, slP, sl0, mxF, bltn, frzA, frz, frzL, frz1, pur1, Cells.pur, PV.scal, scal1, runD, rdO, PV.ids, id1, zids, ety, Eff.on, cnd, minb, and1b, ifmax, ifmin, mxv, sugI, strv, w0, w1, w2, wm1, szP, hrow0]
        repeat' (first | apply And.intro | intro _)
        any_goals (first | (refine hR30 _ ?_; clear hR30) | (first | omega | (simp only [IntKind.wrap_i64] at *; omega) | (simp_all; done) | (simp_all; omega)))
        try simp (maxSteps := 1000000) [runs, gd, step1, need, evu, un, opnds, opv, ev, cst, cst1, cstL, getT, getH, putT, onL, nxt, argT, cellsOf, PV.one, thn, inBlk, jmp, fldP, ldP, ldC, live, Cells.len, Cells.get, Cells.w, sug, ldv, bin, ops2, sh2, binv, Tk.agg, stC, apC, rdS, apS, mvL, zp, argsP, idx, fillP, toInts, chunks, mkC, ixS, ixA, oidx, slP, sl0, mxF, bltn, frzA, frz, frzL, frz1, pur1, Cells.pur, PV.scal, scal1, runD, rdO, PV.ids, id1, zids, ety, Eff.on, cnd, minb, and1b, ifmax, ifmin, mxv, sugI, strv, w0, w1, w2, wm1, szP, hrow0, List.take_succ_cons, List.take_zero, List.drop_succ_cons, List.drop_zero]
        refine .inr (hcl_mk (tns_put1_3 (bs ++ (tB s l k ++ pk ((l[k]?.getD []).length : Nat) (sz0 s))) (bitB ((l[k]?.getD [])[0]?.getD default).fine) (1) (by omega) (by simp [pk_len]; omega)) (by simp [PV.ids, id1, getH, Blk.inL, Cells.inL, inL1]) (by simp [PV.inL, inL1]) (by simp) ?_)
        try simp (maxSteps := 1000000) [runs, gd, step1, need, evu, un, opnds, opv, ev, cst, cst1, cstL, getT, getH, putT, onL, nxt, argT, cellsOf, PV.one, thn, inBlk, jmp, fldP, ldP, ldC, live, Cells.len, Cells.get, Cells.w, sug, ldv, bin, ops2, sh2, binv, Tk.agg, stC, apC, rdS, apS, mvL, zp, argsP, idx, fillP, toInts, chunks, mkC, ixS, ixA, oidx, slP, sl0, mxF, bltn, frzA, frz, frzL, frz1, pur1, Cells.pur, PV.scal, scal1, runD, rdO, PV.ids, id1, zids, ety, Eff.on, cnd, minb, and1b, ifmax, ifmin, mxv, sugI, strv, w0, w1, w2, wm1, szP, hrow0]
        repeat' (first | apply And.intro | intro _)
        any_goals (first | (refine hK26 _ ?_; clear hK26) | (first | omega | (simp only [IntKind.wrap_i64] at *; omega) | (simp_all; done) | (simp_all; omega)))
        refine swp_seq fun K31 hK31 => ?_
        refine swp_region ty_ok ?_
        try simp (maxSteps := 1000000) [runs, gd, step1, need, evu, un, opnds, opv, ev, cst, cst1, cstL, getT, getH, putT, onL, nxt, argT, cellsOf, PV.one, thn, inBlk, jmp, fldP, ldP, ldC, live, Cells.len, Cells.get, Cells.w, sug, ldv, bin, ops2, sh2, binv, Tk.agg, stC, apC, rdS, apS, mvL, zp, argsP, idx, fillP, toInts, chunks, mkC, ixS, ixA, oidx, slP, sl0, mxF, bltn, frzA, frz, frzL, frz1, pur1, Cells.pur, PV.scal, scal1, runD, rdO, PV.ids, id1, zids, ety, Eff.on, cnd, minb, and1b, ifmax, ifmin, mxv, sugI, strv, w0, w1, w2, wm1, szP]
        repeat' (first | apply And.intro | intro _)
        any_goals (first | (refine hK31 _ ?_; clear hK31) | (first | omega | (simp only [IntKind.wrap_i64] at *; omega) | (simp_all; done) | (simp_all; omega)))
        refine swp_block ?_
        have hhd : hdB s (l[k]?.getD []) = pk ((l[k]?.getD []).length : Nat) (sz0 s) ++ pk (bitB ((l[k]?.getD [])[0]?.getD default).fine) 1 := by rw [hdB, if_pos (by assumption)]
        refine swp_loop 3 (fun m_ s_ => ∃ (j : Nat), (j ≤ (l[k]?.getD []).length) ∧ s_ = ⟨[(3, .ptr 0 0 0 1), (9, .fn 60 [.ptr 0 0 0 1]), (10, .ptr 2 0 0 1), (30, .ro (.rows 1 (l.map fun w => [.ro (.rows 5 (w.map Fl.row))]))), (31, .int .i64 (l.length : Nat)), (32, .int .i64 (k : Nat)), (52, .ro (.rows 5 ((l[k]?.getD []).map Fl.row))), (53, .int .i64 ((l[k]?.getD []).length : Nat)), (54, .int .i64 (j : Nat))], [(0, some ⟨.rows 1 [[.ro (.ints .u8 (bs ++ (tB s l k ++ (hdB s (l[k]?.getD []) ++ fB s (l[k]?.getD []) j))))]], true, 45⟩), (2, some ⟨.rows 5 [[.int .i64 (sz0 s), .int .i64 (sz1 s), .int .i64 (sz2 s), .int .i64 (sz3 s), .int .i64 (sz4 s)]], true, 86⟩)], 3⟩ ∧ m_ = (l[k]?.getD []).length - j) _ ⟨[(3, .ptr 0 0 0 1), (9, .fn 60 [.ptr 0 0 0 1]), (10, .ptr 2 0 0 1), (30, .ro (.rows 1 (l.map fun w => [.ro (.rows 5 (w.map Fl.row))]))), (31, .int .i64 (l.length : Nat)), (32, .int .i64 (k : Nat)), (52, .ro (.rows 5 ((l[k]?.getD []).map Fl.row))), (53, .int .i64 ((l[k]?.getD []).length : Nat)), (54, .int .i64 (0 : Nat))], [(0, some ⟨.rows 1 [[.ro (.ints .u8 (bs ++ (tB s l k ++ (hdB s (l[k]?.getD []) ++ fB s (l[k]?.getD []) 0))))]], true, 45⟩), (2, some ⟨.rows 5 [[.int .i64 (sz0 s), .int .i64 (sz1 s), .int .i64 (sz2 s), .int .i64 (sz3 s), .int .i64 (sz4 s)]], true, 86⟩)], 3⟩ ⟨by simp [getT, PV.lo, lo1], by simp [getH, Blk.lo, Cells.lo, lo1, hhd, fB], rfl, by omega⟩ ⟨(0), by (first | omega | (simp only [IntKind.wrap_i64] at *; omega) | (simp_all; done) | (simp_all; omega)), rfl, rfl⟩ ?_
        rintro m_ s_ ⟨j, hL32_0, rfl, rfl⟩ KL32 hL32
        have hjw : IntKind.i64.wrap ((j : Int) + 1) = (((j + 1 : Nat)) : Int) := wnext (by omega)
        have hfl := fB_len (fun f hf => (b2 f hf).1) j
        refine swp_seq fun K33 hK33 => ?_
        refine swp_region ty_ok ?_
        try simp (maxSteps := 1000000) [runs, gd, step1, need, evu, un, opnds, opv, ev, cst, cst1, cstL, getT, getH, putT, onL, nxt, argT, cellsOf, PV.one, thn, inBlk, jmp, fldP, ldP, ldC, live, Cells.len, Cells.get, Cells.w, sug, ldv, bin, ops2, sh2, binv, Tk.agg, stC, apC, rdS, apS, mvL, zp, argsP, idx, fillP, toInts, chunks, mkC, ixS, ixA, oidx, slP, sl0, mxF, bltn, frzA, frz, frzL, frz1, pur1, Cells.pur, PV.scal, scal1, runD, rdO, PV.ids, id1, zids, ety, Eff.on, cnd, minb, and1b, ifmax, ifmin, mxv, sugI, strv, w0, w1, w2, wm1, szP]
        repeat' (first | apply And.intro | intro _)
        any_goals (first | (refine hK33 _ ?_; clear hK33) | (first | omega | (simp only [IntKind.wrap_i64] at *; omega) | (simp_all; done) | (simp_all; omega)))
        refine swp_seq fun K34 hK34 => ?_
        refine swp_if fun C35 hC35 => ?_
        try simp (maxSteps := 1000000) [runs, gd, step1, need, evu, un, opnds, opv, ev, cst, cst1, cstL, getT, getH, putT, onL, nxt, argT, cellsOf, PV.one, thn, inBlk, jmp, fldP, ldP, ldC, live, Cells.len, Cells.get, Cells.w, sug, ldv, bin, ops2, sh2, binv, Tk.agg, stC, apC, rdS, apS, mvL, zp, argsP, idx, fillP, toInts, chunks, mkC, ixS, ixA, oidx, slP, sl0, mxF, bltn, frzA, frz, frzL, frz1, pur1, Cells.pur, PV.scal, scal1, runD, rdO, PV.ids, id1, zids, ety, Eff.on, cnd, minb, and1b, ifmax, ifmin, mxv, sugI, strv, w0, w1, w2, wm1, szP]
        refine hC35 _ (fun hc35 => ?_) (fun hc35 => ?_)
        · clear hC35
          try simp at hc35
          refine swp_skip ?_
          simp only [thn, inBlk]
          refine hK34 _ ?_; clear hK34
          refine swp_seq fun K36 hK36 => ?_
          refine swp_block ?_
          refine swp_seq fun K37 hK37 => ?_
          have hrj := row_at (ws := (l[k]?.getD [])) (k := j) (by omega)
          have hmj : ((l[k]?.getD [])[j]?.getD default) ∈ (l[k]?.getD []) := mem_at (by omega)
          obtain ⟨c1, c2⟩ := b2 _ hmj
          obtain ⟨d1, d2, d3, d4, d5⟩ := right_ok c1
          obtain ⟨e1, e2⟩ := wid_bd ((l[k]?.getD [])[j]?.getD default).fine
          obtain ⟨e3, e4⟩ := csz_bd ((l[k]?.getD [])[j]?.getD default)
          have hsj := fB_succ s (l[k]?.getD []) j (by omega)
          have hwd1 : IntKind.i64.wrap (widB ((l[k]?.getD [])[j]?.getD default).fine - 1) = widB ((l[k]?.getD [])[j]?.getD default).fine - 1 := w64 (by omega)
          have hwd2 : IntKind.i64.wrap (widB ((l[k]?.getD [])[j]?.getD default).fine - bitB (narB ((l[k]?.getD [])[j]?.getD default))) = cszB ((l[k]?.getD [])[j]?.getD default) := by show IntKind.i64.wrap (cszB ((l[k]?.getD [])[j]?.getD default)) = _; exact w64 (by omega)
          refine swp_region ty_ok ?_
          try simp (maxSteps := 1000000) [runs, gd, step1, need, evu, un, opnds, opv, ev, cst, cst1, cstL, getT, getH, putT, onL, nxt, argT, cellsOf, PV.one, thn, inBlk, jmp, fldP, ldP, ldC, live, Cells.len, Cells.get, Cells.w, sug, ldv, bin, ops2, sh2, binv, Tk.agg, stC, apC, rdS, apS, mvL, zp, argsP, idx, fillP, toInts, chunks, mkC, ixS, ixA, oidx, slP, sl0, mxF, bltn, frzA, frz, frzL, frz1, pur1, Cells.pur, PV.scal, scal1, runD, rdO, PV.ids, id1, zids, ety, Eff.on, cnd, minb, and1b, ifmax, ifmin, mxv, sugI, strv, w0, w1, w2, wm1, szP, hrj]
          repeat' (first | apply And.intro | intro _)
          any_goals (first | (refine hK37 _ ?_; clear hK37) | (first | omega | (simp only [IntKind.wrap_i64] at *; omega) | (simp_all; done) | (simp_all; omega)))
          refine swp_seq fun K38 hK38 => ?_
          refine swp_region ty_ok ?_
          refine runs_cut 5 fun R39 hR39 => ?_
          try simp (maxSteps := 1000000) [runs, gd, step1, need, evu, un, opnds, opv, ev, cst, cst1, cstL, getT, getH, putT, onL, nxt, argT, cellsOf, PV.one, thn, inBlk, jmp, fldP, ldP, ldC, live, Cells.len, Cells.get, Cells.w, sug, ldv, bin, ops2, sh2, binv, Tk.agg, stC, apC, rdS, apS, mvL, zp, argsP, idx, fillP, toInts, chunks, mkC, ixS, ixA, oidx, slP, sl0, mxF, bltn, frzA, frz, frzL, frz1, pur1, Cells.pur, PV.scal, scal1, runD, rdO, PV.ids, id1, zids, ety, Eff.on, cnd, minb, and1b, ifmax, ifmin, mxv, sugI, strv, w0, w1, w2, wm1, szP, List.take_succ_cons, List.take_zero, List.drop_succ_cons, List.drop_zero]
          repeat' (first | apply And.intro | intro _)
          any_goals (first | (refine hR39 _ ?_; clear hR39) | (first | omega | (simp only [IntKind.wrap_i64] at *; omega) | (simp_all; done) | (simp_all; omega)))
          try simp (maxSteps := 1000000) [runs, gd, step1, need, evu, un, opnds, opv, ev, cst, cst1, cstL, getT, getH, putT, onL, nxt, argT, cellsOf, PV.one, thn, inBlk, jmp, fldP, ldP, ldC, live, Cells.len, Cells.get, Cells.w, sug, ldv, bin, ops2, sh2, binv, Tk.agg, stC, apC, rdS, apS, mvL, zp, argsP, idx, fillP, toInts, chunks, mkC, ixS, ixA, oidx, slP, sl0, mxF, bltn, frzA, frz, frzL, frz1, pur1, Cells.pur, PV.scal, scal1, runD, rdO, PV.ids, id1, zids, ety, Eff.on, cnd, minb, and1b, ifmax, ifmin, mxv, sugI, strv, w0, w1, w2, wm1, szP, List.take_succ_cons, List.take_zero, List.drop_succ_cons, List.drop_zero]
          refine .inr (hcl_mk (tns_put1_4 (bs ++ (tB s l k ++ (hdB s (l[k]?.getD []) ++ fB s (l[k]?.getD []) j))) (((l[k]?.getD [])[j]?.getD default).len) (sz1 s) (by omega) (by simp [pk_len]; omega)) (by simp [PV.ids, id1, getH, Blk.inL, Cells.inL, inL1]) (by simp [PV.inL, inL1]) (by simp) ?_)
          try simp (maxSteps := 1000000) [runs, gd, step1, need, evu, un, opnds, opv, ev, cst, cst1, cstL, getT, getH, putT, onL, nxt, argT, cellsOf, PV.one, thn, inBlk, jmp, fldP, ldP, ldC, live, Cells.len, Cells.get, Cells.w, sug, ldv, bin, ops2, sh2, binv, Tk.agg, stC, apC, rdS, apS, mvL, zp, argsP, idx, fillP, toInts, chunks, mkC, ixS, ixA, oidx, slP, sl0, mxF, bltn, frzA, frz, frzL, frz1, pur1, Cells.pur, PV.scal, scal1, runD, rdO, PV.ids, id1, zids, ety, Eff.on, cnd, minb, and1b, ifmax, ifmin, mxv, sugI, strv, w0, w1, w2, wm1, szP]
          repeat' (first | apply And.intro | intro _)
          any_goals (first | (refine hK38 _ ?_; clear hK38) | (first | omega | (simp only [IntKind.wrap_i64] at *; omega) | (simp_all; done) | (simp_all; omega)))
          refine swp_seq fun K40 hK40 => ?_
          refine swp_region ty_ok ?_
          refine runs_cut 5 fun R41 hR41 => ?_
          try simp (maxSteps := 1000000) [runs, gd, step1, need, evu, un, opnds, opv, ev, cst, cst1, cstL, getT, getH, putT, onL, nxt, argT, cellsOf, PV.one, thn, inBlk, jmp, fldP, ldP, ldC, live, Cells.len, Cells.get, Cells.w, sug, ldv, bin, ops2, sh2, binv, Tk.agg, stC, apC, rdS, apS, mvL, zp, argsP, idx, fillP, toInts, chunks, mkC, ixS, ixA, oidx, slP, sl0, mxF, bltn, frzA, frz, frzL, frz1, pur1, Cells.pur, PV.scal, scal1, runD, rdO, PV.ids, id1, zids, ety, Eff.on, cnd, minb, and1b, ifmax, ifmin, mxv, sugI, strv, w0, w1, w2, wm1, szP, List.take_succ_cons, List.take_zero, List.drop_succ_cons, List.drop_zero]
          repeat' (first | apply And.intro | intro _)
          any_goals (first | (refine hR41 _ ?_; clear hR41) | (first | omega | (simp only [IntKind.wrap_i64] at *; omega) | (simp_all; done) | (simp_all; omega)))
          try simp (maxSteps := 1000000) [runs, gd, step1, need, evu, un, opnds, opv, ev, cst, cst1, cstL, getT, getH, putT, onL, nxt, argT, cellsOf, PV.one, thn, inBlk, jmp, fldP, ldP, ldC, live, Cells.len, Cells.get, Cells.w, sug, ldv, bin, ops2, sh2, binv, Tk.agg, stC, apC, rdS, apS, mvL, zp, argsP, idx, fillP, toInts, chunks, mkC, ixS, ixA, oidx, slP, sl0, mxF, bltn, frzA, frz, frzL, frz1, pur1, Cells.pur, PV.scal, scal1, runD, rdO, PV.ids, id1, zids, ety, Eff.on, cnd, minb, and1b, ifmax, ifmin, mxv, sugI, strv, w0, w1, w2, wm1, szP, List.take_succ_cons, List.take_zero, List.drop_succ_cons, List.drop_zero]
          refine .inr (hcl_mk (tns_put1_4 (bs ++ (tB s l k ++ (hdB s (l[k]?.getD []) ++ (fB s (l[k]?.getD []) j ++ pk ((l[k]?.getD [])[j]?.getD default).len (sz1 s))))) (((l[k]?.getD [])[j]?.getD default).order) (sz2 s) (by omega) (by simp [pk_len]; omega)) (by simp [PV.ids, id1, getH, Blk.inL, Cells.inL, inL1]) (by simp [PV.inL, inL1]) (by simp) ?_)
          try simp (maxSteps := 1000000) [runs, gd, step1, need, evu, un, opnds, opv, ev, cst, cst1, cstL, getT, getH, putT, onL, nxt, argT, cellsOf, PV.one, thn, inBlk, jmp, fldP, ldP, ldC, live, Cells.len, Cells.get, Cells.w, sug, ldv, bin, ops2, sh2, binv, Tk.agg, stC, apC, rdS, apS, mvL, zp, argsP, idx, fillP, toInts, chunks, mkC, ixS, ixA, oidx, slP, sl0, mxF, bltn, frzA, frz, frzL, frz1, pur1, Cells.pur, PV.scal, scal1, runD, rdO, PV.ids, id1, zids, ety, Eff.on, cnd, minb, and1b, ifmax, ifmin, mxv, sugI, strv, w0, w1, w2, wm1, szP]
          repeat' (first | apply And.intro | intro _)
          any_goals (first | (refine hK40 _ ?_; clear hK40) | (first | omega | (simp only [IntKind.wrap_i64] at *; omega) | (simp_all; done) | (simp_all; omega)))
          refine swp_seq fun K42 hK42 => ?_
          refine swp_seq fun K43 hK43 => ?_
          refine swp_region ty_ok ?_
          try simp (maxSteps := 1000000) [runs, gd, step1, need, evu, un, opnds, opv, ev, cst, cst1, cstL, getT, getH, putT, onL, nxt, argT, cellsOf, PV.one, thn, inBlk, jmp, fldP, ldP, ldC, live, Cells.len, Cells.get, Cells.w, sug, ldv, bin, ops2, sh2, binv, Tk.agg, stC, apC, rdS, apS, mvL, zp, argsP, idx, fillP, toInts, chunks, mkC, ixS, ixA, oidx, slP, sl0, mxF, bltn, frzA, frz, frzL, frz1, pur1, Cells.pur, PV.scal, scal1, runD, rdO, PV.ids, id1, zids, ety, Eff.on, cnd, minb, and1b, ifmax, ifmin, mxv, sugI, strv, w0, w1, w2, wm1, szP]
          repeat' (first | apply And.intro | intro _)
          any_goals (first | (refine hK43 _ ?_; clear hK43) | (first | omega | (simp only [IntKind.wrap_i64] at *; omega) | (simp_all; done) | (simp_all; omega)))
          refine swp_if fun C44 hC44 => ?_
          try simp (maxSteps := 1000000) [runs, gd, step1, need, evu, un, opnds, opv, ev, cst, cst1, cstL, getT, getH, putT, onL, nxt, argT, cellsOf, PV.one, thn, inBlk, jmp, fldP, ldP, ldC, live, Cells.len, Cells.get, Cells.w, sug, ldv, bin, ops2, sh2, binv, Tk.agg, stC, apC, rdS, apS, mvL, zp, argsP, idx, fillP, toInts, chunks, mkC, ixS, ixA, oidx, slP, sl0, mxF, bltn, frzA, frz, frzL, frz1, pur1, Cells.pur, PV.scal, scal1, runD, rdO, PV.ids, id1, zids, ety, Eff.on, cnd, minb, and1b, ifmax, ifmin, mxv, sugI, strv, w0, w1, w2, wm1, szP]
          refine hC44 _ (fun hc44 => ?_) (fun hc44 => ?_)
          · clear hC44
            try simp at hc44
            refine swp_exit ?_
            simp [thn, inBlk]
            refine hK36 _ ?_; clear hK36
            refine swp_region ty_ok ?_
            try simp (maxSteps := 1000000) [runs, gd, step1, need, evu, un, opnds, opv, ev, cst, cst1, cstL, getT, getH, putT, onL, nxt, argT, cellsOf, PV.one, thn, inBlk, jmp, fldP, ldP, ldC, live, Cells.len, Cells.get, Cells.w, sug, ldv, bin, ops2, sh2, binv, Tk.agg, stC, apC, rdS, apS, mvL, zp, argsP, idx, fillP, toInts, chunks, mkC, ixS, ixA, oidx, slP, sl0, mxF, bltn, frzA, frz, frzL, frz1, pur1, Cells.pur, PV.scal, scal1, runD, rdO, PV.ids, id1, zids, ety, Eff.on, cnd, minb, and1b, ifmax, ifmin, mxv, sugI, strv, w0, w1, w2, wm1, szP]
            repeat' apply And.intro
            any_goals (try omega)
            refine hL32 _ ⟨[(3, .ptr 0 0 0 1), (9, .fn 60 [.ptr 0 0 0 1]), (10, .ptr 2 0 0 1), (30, .ro (.rows 1 (l.map fun w => [.ro (.rows 5 (w.map Fl.row))]))), (31, .int .i64 (l.length : Nat)), (32, .int .i64 (k : Nat)), (52, .ro (.rows 5 ((l[k]?.getD []).map Fl.row))), (53, .int .i64 ((l[k]?.getD []).length : Nat)), (54, .int .i64 ((j + 1) : Nat))], [(0, some ⟨.rows 1 [[.ro (.ints .u8 (bs ++ (tB s l k ++ (hdB s (l[k]?.getD []) ++ fB s (l[k]?.getD []) (j + 1)))))]], true, 45⟩), (2, some ⟨.rows 5 [[.int .i64 (sz0 s), .int .i64 (sz1 s), .int .i64 (sz2 s), .int .i64 (sz3 s), .int .i64 (sz4 s)]], true, 86⟩)], 3⟩ _ ?_ ⟨(j + 1), by (first | omega | (simp only [IntKind.wrap_i64] at *; omega) | (simp_all; done) | (simp_all; omega)), rfl, rfl⟩ ⟨by simp [getT, PV.lo, lo1, hjw], by (first | (have hie : i = ((l[k]?.getD [])[j]?.getD default).co.length := (by omega); have hfe : filB s ((l[k]?.getD [])[j]?.getD default) = pk ((l[k]?.getD [])[j]?.getD default).len (sz1 s) ++ (pk ((l[k]?.getD [])[j]?.getD default).order (sz2 s) ++ (pk (bitB ((l[k]?.getD [])[j]?.getD default).down) 1 ++ (pk (bitB (narB ((l[k]?.getD [])[j]?.getD default))) 1 ++ cB ((l[k]?.getD [])[j]?.getD default) i))) := (by rw [filB, if_neg (by assumption), hie]); simp [getH, Blk.lo, Cells.lo, lo1, hsj, hfe]) | (have hfe : filB s ((l[k]?.getD [])[j]?.getD default) = pk ((l[k]?.getD [])[j]?.getD default).len (sz1 s) ++ pk ((l[k]?.getD [])[j]?.getD default).order (sz2 s) := (by rw [filB, if_pos (by assumption), List.append_nil]); simp [getH, Blk.lo, Cells.lo, lo1, hsj, hfe])), rfl, by omega⟩
            omega
          · clear hC44
            try simp at hc44
            refine swp_skip ?_
            simp only [thn, inBlk]
            refine hK42 _ ?_; clear hK42
            refine swp_seq fun K45 hK45 => ?_
            refine swp_region ty_ok ?_
            refine runs_cut 2 fun R46 hR46 => ?_
            try simp (maxSteps := 1000000) [runs, gd, step1, need, evu, un, opnds, opv, ev, cst, cst1, cstL, getT, getH, putT, onL, nxt, argT, cellsOf, PV.one, thn, inBlk, jmp, fldP, ldP, ldC, live, Cells.len, Cells.get, Cells.w, sug, ldv, bin, ops2, sh2, binv, Tk.agg, stC, apC, rdS, apS, mvL, zp, argsP, idx, fillP, toInts, chunks, mkC, ixS, ixA, oidx, slP, sl0, mxF, bltn, frzA, frz, frzL, frz1, pur1, Cells.pur, PV.scal, scal1, runD, rdO, PV.ids, id1, zids, ety, Eff.on, cnd, minb, and1b, ifmax, ifmin, mxv, sugI, strv, w0, w1, w2, wm1, szP, List.take_succ_cons, List.take_zero, List.drop_succ_cons, List.drop_zero]
            repeat' (first | apply And.intro | intro _)
            any_goals (first | (refine hR46 _ ?_; clear hR46) | (first | omega | (simp only [IntKind.wrap_i64] at *; omega) | (simp_all; done) | (simp_all; omega)))
            refine runs_cut 1 fun R47 hR47 => ?_
            try simp (maxSteps := 1000000) [runs, gd, step1, need, evu, un, opnds, opv, ev, cst, cst1, cstL, getT, getH, putT, onL, nxt, argT, cellsOf, PV.one, thn, inBlk, jmp, fldP, ldP, ldC, live, Cells.len, Cells.get, Cells.w, sug, ldv, bin, ops2, sh2, binv, Tk.agg, stC, apC, rdS, apS, mvL, zp, argsP, idx, fillP, toInts, chunks, mkC, ixS, ixA, oidx, slP, sl0, mxF, bltn, frzA, frz, frzL, frz1, pur1, Cells.pur, PV.scal, scal1, runD, rdO, PV.ids, id1, zids, ety, Eff.on, cnd, minb, and1b, ifmax, ifmin, mxv, sugI, strv, w0, w1, w2, wm1, szP, List.take_succ_cons, List.take_zero, List.drop_succ_cons, List.drop_zero]
            refine .inl ⟨_, tnsbits_wide_ok _, ?_⟩
            try simp (maxSteps := 1000000) [runs, gd, step1, need, evu, un, opnds, opv, ev, cst, cst1, cstL, getT, getH, putT, onL, nxt, argT, cellsOf, PV.one, thn, inBlk, jmp, fldP, ldP, ldC, live, Cells.len, Cells.get, Cells.w, sug, ldv, bin, ops2, sh2, binv, Tk.agg, stC, apC, rdS, apS, mvL, zp, argsP, idx, fillP, toInts, chunks, mkC, ixS, ixA, oidx, slP, sl0, mxF, bltn, frzA, frz, frzL, frz1, pur1, Cells.pur, PV.scal, scal1, runD, rdO, PV.ids, id1, zids, ety, Eff.on, cnd, minb, and1b, ifmax, ifmin, mxv, sugI, strv, w0, w1, w2, wm1, szP]
            repeat' (first | apply And.intro | intro _)
            any_goals (first | (refine hR47 _ ?_; clear hR47) | (first | omega | (simp only [IntKind.wrap_i64] at *; omega) | (simp_all; done) | (simp_all; omega)))
            try simp (maxSteps := 1000000) [runs, gd, step1, need, evu, un, opnds, opv, ev, cst, cst1, cstL, getT, getH, putT, onL, nxt, argT, cellsOf, PV.one, thn, inBlk, jmp, fldP, ldP, ldC, live, Cells.len, Cells.get, Cells.w, sug, ldv, bin, ops2, sh2, binv, Tk.agg, stC, apC, rdS, apS, mvL, zp, argsP, idx, fillP, toInts, chunks, mkC, ixS, ixA, oidx, slP, sl0, mxF, bltn, frzA, frz, frzL, frz1, pur1, Cells.pur, PV.scal, scal1, runD, rdO, PV.ids, id1, zids, ety, Eff.on, cnd, minb, and1b, ifmax, ifmin, mxv, sugI, strv, w0, w1, w2, wm1, szP, List.take_succ_cons, List.take_zero, List.drop_succ_cons, List.drop_zero]
            repeat' (first | apply And.intro | intro _)
            any_goals (first | (refine hK45 _ ?_; clear hK45) | (first | omega | (simp only [IntKind.wrap_i64] at *; omega) | (simp_all; done) | (simp_all; omega)))
            refine swp_seq fun K48 hK48 => ?_
            refine swp_region ty_ok ?_
            refine runs_cut 4 fun R49 hR49 => ?_
            try simp (maxSteps := 1000000) [runs, gd, step1, need, evu, un, opnds, opv, ev, cst, cst1, cstL, getT, getH, putT, onL, nxt, argT, cellsOf, PV.one, thn, inBlk, jmp, fldP, ldP, ldC, live, Cells.len, Cells.get, Cells.w, sug, ldv, bin, ops2, sh2, binv, Tk.agg, stC, apC, rdS, apS, mvL, zp, argsP, idx, fillP, toInts, chunks, mkC, ixS, ixA, oidx, slP, sl0, mxF, bltn, frzA, frz, frzL, frz1, pur1, Cells.pur, PV.scal, scal1, runD, rdO, PV.ids, id1, zids, ety, Eff.on, cnd, minb, and1b, ifmax, ifmin, mxv, sugI, strv, w0, w1, w2, wm1, szP, hwd1, List.take_succ_cons, List.take_zero, List.drop_succ_cons, List.drop_zero]
            repeat' (first | apply And.intro | intro _)
            any_goals (first | (refine hR49 _ ?_; clear hR49) | (first | omega | (simp only [IntKind.wrap_i64] at *; omega) | (simp_all; done) | (simp_all; omega)))
            refine runs_cut 1 fun R50 hR50 => ?_
            try simp (maxSteps := 1000000) [runs, gd, step1, need, evu, un, opnds, opv, ev, cst, cst1, cstL, getT, getH, putT, onL, nxt, argT, cellsOf, PV.one, thn, inBlk, jmp, fldP, ldP, ldC, live, Cells.len, Cells.get, Cells.w, sug, ldv, bin, ops2, sh2, binv, Tk.agg, stC, apC, rdS, apS, mvL, zp, argsP, idx, fillP, toInts, chunks, mkC, ixS, ixA, oidx, slP, sl0, mxF, bltn, frzA, frz, frzL, frz1, pur1, Cells.pur, PV.scal, scal1, runD, rdO, PV.ids, id1, zids, ety, Eff.on, cnd, minb, and1b, ifmax, ifmin, mxv, sugI, strv, w0, w1, w2, wm1, szP, hwd1, List.take_succ_cons, List.take_zero, List.drop_succ_cons, List.drop_zero]
            refine .inl ⟨_, (show PCall _ _ [.ro (.ints .i64 ((l[k]?.getD [])[j]?.getD default).co), .int .i64 (widB ((l[k]?.getD [])[j]?.getD default).fine - 1)] (.bool (narB ((l[k]?.getD [])[j]?.getD default))) from tnsbits_fit_ok ((l[k]?.getD [])[j]?.getD default).co (widB ((l[k]?.getD [])[j]?.getD default).fine - 1) (by omega) (by omega)), ?_⟩
            try simp (maxSteps := 1000000) [runs, gd, step1, need, evu, un, opnds, opv, ev, cst, cst1, cstL, getT, getH, putT, onL, nxt, argT, cellsOf, PV.one, thn, inBlk, jmp, fldP, ldP, ldC, live, Cells.len, Cells.get, Cells.w, sug, ldv, bin, ops2, sh2, binv, Tk.agg, stC, apC, rdS, apS, mvL, zp, argsP, idx, fillP, toInts, chunks, mkC, ixS, ixA, oidx, slP, sl0, mxF, bltn, frzA, frz, frzL, frz1, pur1, Cells.pur, PV.scal, scal1, runD, rdO, PV.ids, id1, zids, ety, Eff.on, cnd, minb, and1b, ifmax, ifmin, mxv, sugI, strv, w0, w1, w2, wm1, szP, hwd1]
            repeat' (first | apply And.intro | intro _)
            any_goals (first | (refine hR50 _ ?_; clear hR50) | (first | omega | (simp only [IntKind.wrap_i64] at *; omega) | (simp_all; done) | (simp_all; omega)))
            try simp (maxSteps := 1000000) [runs, gd, step1, need, evu, un, opnds, opv, ev, cst, cst1, cstL, getT, getH, putT, onL, nxt, argT, cellsOf, PV.one, thn, inBlk, jmp, fldP, ldP, ldC, live, Cells.len, Cells.get, Cells.w, sug, ldv, bin, ops2, sh2, binv, Tk.agg, stC, apC, rdS, apS, mvL, zp, argsP, idx, fillP, toInts, chunks, mkC, ixS, ixA, oidx, slP, sl0, mxF, bltn, frzA, frz, frzL, frz1, pur1, Cells.pur, PV.scal, scal1, runD, rdO, PV.ids, id1, zids, ety, Eff.on, cnd, minb, and1b, ifmax, ifmin, mxv, sugI, strv, w0, w1, w2, wm1, szP, hwd1, List.take_succ_cons, List.take_zero, List.drop_succ_cons, List.drop_zero]
            repeat' (first | apply And.intro | intro _)
            any_goals (first | (refine hK48 _ ?_; clear hK48) | (first | omega | (simp only [IntKind.wrap_i64] at *; omega) | (simp_all; done) | (simp_all; omega)))
            refine swp_seq fun K51 hK51 => ?_
            refine swp_region ty_ok ?_
            refine runs_cut 3 fun R52 hR52 => ?_
            try simp (maxSteps := 1000000) [runs, gd, step1, need, evu, un, opnds, opv, ev, cst, cst1, cstL, getT, getH, putT, onL, nxt, argT, cellsOf, PV.one, thn, inBlk, jmp, fldP, ldP, ldC, live, Cells.len, Cells.get, Cells.w, sug, ldv, bin, ops2, sh2, binv, Tk.agg, stC, apC, rdS, apS, mvL, zp, argsP, idx, fillP, toInts, chunks, mkC, ixS, ixA, oidx, slP, sl0, mxF, bltn, frzA, frz, frzL, frz1, pur1, Cells.pur, PV.scal, scal1, runD, rdO, PV.ids, id1, zids, ety, Eff.on, cnd, minb, and1b, ifmax, ifmin, mxv, sugI, strv, w0, w1, w2, wm1, szP, List.take_succ_cons, List.take_zero, List.drop_succ_cons, List.drop_zero]
            repeat' (first | apply And.intro | intro _)
            any_goals (first | (refine hR52 _ ?_; clear hR52) | (first | omega | (simp only [IntKind.wrap_i64] at *; omega) | (simp_all; done) | (simp_all; omega)))
            refine runs_cut 1 fun R53 hR53 => ?_
            try simp (maxSteps := 1000000) [runs, gd, step1, need, evu, un, opnds, opv, ev, cst, cst1, cstL, getT, getH, putT, onL, nxt, argT, cellsOf, PV.one, thn, inBlk, jmp, fldP, ldP, ldC, live, Cells.len, Cells.get, Cells.w, sug, ldv, bin, ops2, sh2, binv, Tk.agg, stC, apC, rdS, apS, mvL, zp, argsP, idx, fillP, toInts, chunks, mkC, ixS, ixA, oidx, slP, sl0, mxF, bltn, frzA, frz, frzL, frz1, pur1, Cells.pur, PV.scal, scal1, runD, rdO, PV.ids, id1, zids, ety, Eff.on, cnd, minb, and1b, ifmax, ifmin, mxv, sugI, strv, w0, w1, w2, wm1, szP, List.take_succ_cons, List.take_zero, List.drop_succ_cons, List.drop_zero]
            refine .inl ⟨_, tnsbits_bit_ok _, ?_⟩
            try simp (maxSteps := 1000000) [runs, gd, step1, need, evu, un, opnds, opv, ev, cst, cst1, cstL, getT, getH, putT, onL, nxt, argT, cellsOf, PV.one, thn, inBlk, jmp, fldP, ldP, ldC, live, Cells.len, Cells.get, Cells.w, sug, ldv, bin, ops2, sh2, binv, Tk.agg, stC, apC, rdS, apS, mvL, zp, argsP, idx, fillP, toInts, chunks, mkC, ixS, ixA, oidx, slP, sl0, mxF, bltn, frzA, frz, frzL, frz1, pur1, Cells.pur, PV.scal, scal1, runD, rdO, PV.ids, id1, zids, ety, Eff.on, cnd, minb, and1b, ifmax, ifmin, mxv, sugI, strv, w0, w1, w2, wm1, szP]
            repeat' (first | apply And.intro | intro _)
            any_goals (first | (refine hR53 _ ?_; clear hR53) | (first | omega | (simp only [IntKind.wrap_i64] at *; omega) | (simp_all; done) | (simp_all; omega)))
            try simp (maxSteps := 1000000) [runs, gd, step1, need, evu, un, opnds, opv, ev, cst, cst1, cstL, getT, getH, putT, onL, nxt, argT, cellsOf, PV.one, thn, inBlk, jmp, fldP, ldP, ldC, live, Cells.len, Cells.get, Cells.w, sug, ldv, bin, ops2, sh2, binv, Tk.agg, stC, apC, rdS, apS, mvL, zp, argsP, idx, fillP, toInts, chunks, mkC, ixS, ixA, oidx, slP, sl0, mxF, bltn, frzA, frz, frzL, frz1, pur1, Cells.pur, PV.scal, scal1, runD, rdO, PV.ids, id1, zids, ety, Eff.on, cnd, minb, and1b, ifmax, ifmin, mxv, sugI, strv, w0, w1, w2, wm1, szP, List.take_succ_cons, List.take_zero, List.drop_succ_cons, List.drop_zero]
            refine .inr (hcl_mk (tns_put1_4 (bs ++ (tB s l k ++ (hdB s (l[k]?.getD []) ++ (fB s (l[k]?.getD []) j ++ (pk ((l[k]?.getD [])[j]?.getD default).len (sz1 s) ++ pk ((l[k]?.getD [])[j]?.getD default).order (sz2 s)))))) (bitB ((l[k]?.getD [])[j]?.getD default).down) (1) (by omega) (by simp [pk_len]; omega)) (by simp [PV.ids, id1, getH, Blk.inL, Cells.inL, inL1]) (by simp [PV.inL, inL1]) (by simp) ?_)
            try simp (maxSteps := 1000000) [runs, gd, step1, need, evu, un, opnds, opv, ev, cst, cst1, cstL, getT, getH, putT, onL, nxt, argT, cellsOf, PV.one, thn, inBlk, jmp, fldP, ldP, ldC, live, Cells.len, Cells.get, Cells.w, sug, ldv, bin, ops2, sh2, binv, Tk.agg, stC, apC, rdS, apS, mvL, zp, argsP, idx, fillP, toInts, chunks, mkC, ixS, ixA, oidx, slP, sl0, mxF, bltn, frzA, frz, frzL, frz1, pur1, Cells.pur, PV.scal, scal1, runD, rdO, PV.ids, id1, zids, ety, Eff.on, cnd, minb, and1b, ifmax, ifmin, mxv, sugI, strv, w0, w1, w2, wm1, szP]
            repeat' (first | apply And.intro | intro _)
            any_goals (first | (refine hK51 _ ?_; clear hK51) | (first | omega | (simp only [IntKind.wrap_i64] at *; omega) | (simp_all; done) | (simp_all; omega)))
            refine swp_seq fun K54 hK54 => ?_
            refine swp_region ty_ok ?_
            refine runs_cut 2 fun R55 hR55 => ?_
            try simp (maxSteps := 1000000) [runs, gd, step1, need, evu, un, opnds, opv, ev, cst, cst1, cstL, getT, getH, putT, onL, nxt, argT, cellsOf, PV.one, thn, inBlk, jmp, fldP, ldP, ldC, live, Cells.len, Cells.get, Cells.w, sug, ldv, bin, ops2, sh2, binv, Tk.agg, stC, apC, rdS, apS, mvL, zp, argsP, idx, fillP, toInts, chunks, mkC, ixS, ixA, oidx, slP, sl0, mxF, bltn, frzA, frz, frzL, frz1, pur1, Cells.pur, PV.scal, scal1, runD, rdO, PV.ids, id1, zids, ety, Eff.on, cnd, minb, and1b, ifmax, ifmin, mxv, sugI, strv, w0, w1, w2, wm1, szP, List.take_succ_cons, List.take_zero, List.drop_succ_cons, List.drop_zero]
            repeat' (first | apply And.intro | intro _)
            any_goals (first | (refine hR55 _ ?_; clear hR55) | (first | omega | (simp only [IntKind.wrap_i64] at *; omega) | (simp_all; done) | (simp_all; omega)))
            refine runs_cut 1 fun R56 hR56 => ?_
            try simp (maxSteps := 1000000) [runs, gd, step1, need, evu, un, opnds, opv, ev, cst, cst1, cstL, getT, getH, putT, onL, nxt, argT, cellsOf, PV.one, thn, inBlk, jmp, fldP, ldP, ldC, live, Cells.len, Cells.get, Cells.w, sug, ldv, bin, ops2, sh2, binv, Tk.agg, stC, apC, rdS, apS, mvL, zp, argsP, idx, fillP, toInts, chunks, mkC, ixS, ixA, oidx, slP, sl0, mxF, bltn, frzA, frz, frzL, frz1, pur1, Cells.pur, PV.scal, scal1, runD, rdO, PV.ids, id1, zids, ety, Eff.on, cnd, minb, and1b, ifmax, ifmin, mxv, sugI, strv, w0, w1, w2, wm1, szP, List.take_succ_cons, List.take_zero, List.drop_succ_cons, List.drop_zero]
            refine .inl ⟨_, tnsbits_bit_ok _, ?_⟩
            try simp (maxSteps := 1000000) [runs, gd, step1, need, evu, un, opnds, opv, ev, cst, cst1, cstL, getT, getH, putT, onL, nxt, argT, cellsOf, PV.one, thn, inBlk, jmp, fldP, ldP, ldC, live, Cells.len, Cells.get, Cells.w, sug, ldv, bin, ops2, sh2, binv, Tk.agg, stC, apC, rdS, apS, mvL, zp, argsP, idx, fillP, toInts, chunks, mkC, ixS, ixA, oidx, slP, sl0, mxF, bltn, frzA, frz, frzL, frz1, pur1, Cells.pur, PV.scal, scal1, runD, rdO, PV.ids, id1, zids, ety, Eff.on, cnd, minb, and1b, ifmax, ifmin, mxv, sugI, strv, w0, w1, w2, wm1, szP]
            repeat' (first | apply And.intro | intro _)
            any_goals (first | (refine hR56 _ ?_; clear hR56) | (first | omega | (simp only [IntKind.wrap_i64] at *; omega) | (simp_all; done) | (simp_all; omega)))
            try simp (maxSteps := 1000000) [runs, gd, step1, need, evu, un, opnds, opv, ev, cst, cst1, cstL, getT, getH, putT, onL, nxt, argT, cellsOf, PV.one, thn, inBlk, jmp, fldP, ldP, ldC, live, Cells.len, Cells.get, Cells.w, sug, ldv, bin, ops2, sh2, binv, Tk.agg, stC, apC, rdS, apS, mvL, zp, argsP, idx, fillP, toInts, chunks, mkC, ixS, ixA, oidx, slP, sl0, mxF, bltn, frzA, frz, frzL, frz1, pur1, Cells.pur, PV.scal, scal1, runD, rdO, PV.ids, id1, zids, ety, Eff.on, cnd, minb, and1b, ifmax, ifmin, mxv, sugI, strv, w0, w1, w2, wm1, szP, List.take_succ_cons, List.take_zero, List.drop_succ_cons, List.drop_zero]
            refine .inr (hcl_mk (tns_put1_4 (bs ++ (tB s l k ++ (hdB s (l[k]?.getD []) ++ (fB s (l[k]?.getD []) j ++ (pk ((l[k]?.getD [])[j]?.getD default).len (sz1 s) ++ (pk ((l[k]?.getD [])[j]?.getD default).order (sz2 s) ++ pk (bitB ((l[k]?.getD [])[j]?.getD default).down) 1)))))) (bitB (narB ((l[k]?.getD [])[j]?.getD default))) (1) (by omega) (by simp [pk_len]; omega)) (by simp [PV.ids, id1, getH, Blk.inL, Cells.inL, inL1]) (by simp [PV.inL, inL1]) (by simp) ?_)
            try simp (maxSteps := 1000000) [runs, gd, step1, need, evu, un, opnds, opv, ev, cst, cst1, cstL, getT, getH, putT, onL, nxt, argT, cellsOf, PV.one, thn, inBlk, jmp, fldP, ldP, ldC, live, Cells.len, Cells.get, Cells.w, sug, ldv, bin, ops2, sh2, binv, Tk.agg, stC, apC, rdS, apS, mvL, zp, argsP, idx, fillP, toInts, chunks, mkC, ixS, ixA, oidx, slP, sl0, mxF, bltn, frzA, frz, frzL, frz1, pur1, Cells.pur, PV.scal, scal1, runD, rdO, PV.ids, id1, zids, ety, Eff.on, cnd, minb, and1b, ifmax, ifmin, mxv, sugI, strv, w0, w1, w2, wm1, szP]
            repeat' (first | apply And.intro | intro _)
            any_goals (first | (refine hK54 _ ?_; clear hK54) | (first | omega | (simp only [IntKind.wrap_i64] at *; omega) | (simp_all; done) | (simp_all; omega)))
            refine swp_seq fun K57 hK57 => ?_
            refine swp_region ty_ok ?_
            try simp (maxSteps := 1000000) [runs, gd, step1, need, evu, un, opnds, opv, ev, cst, cst1, cstL, getT, getH, putT, onL, nxt, argT, cellsOf, PV.one, thn, inBlk, jmp, fldP, ldP, ldC, live, Cells.len, Cells.get, Cells.w, sug, ldv, bin, ops2, sh2, binv, Tk.agg, stC, apC, rdS, apS, mvL, zp, argsP, idx, fillP, toInts, chunks, mkC, ixS, ixA, oidx, slP, sl0, mxF, bltn, frzA, frz, frzL, frz1, pur1, Cells.pur, PV.scal, scal1, runD, rdO, PV.ids, id1, zids, ety, Eff.on, cnd, minb, and1b, ifmax, ifmin, mxv, sugI, strv, w0, w1, w2, wm1, szP]
            repeat' (first | apply And.intro | intro _)
            any_goals (first | (refine hK57 _ ?_; clear hK57) | (first | omega | (simp only [IntKind.wrap_i64] at *; omega) | (simp_all; done) | (simp_all; omega)))
            refine swp_block ?_
            refine swp_loop 4 (fun m_ s_ => ∃ (i : Nat), (i ≤ ((l[k]?.getD [])[j]?.getD default).co.length) ∧ s_ = ⟨[(3, .ptr 0 0 0 1), (9, .fn 60 [.ptr 0 0 0 1]), (10, .ptr 2 0 0 1), (30, .ro (.rows 1 (l.map fun w => [.ro (.rows 5 (w.map Fl.row))]))), (31, .int .i64 (l.length : Nat)), (32, .int .i64 (k : Nat)), (52, .ro (.rows 5 ((l[k]?.getD []).map Fl.row))), (53, .int .i64 ((l[k]?.getD []).length : Nat)), (54, .int .i64 (j : Nat)), (14, .ptr 3 0 0 1), (15, .int .i64 (widB ((l[k]?.getD [])[j]?.getD default).fine)), (16, .bool (narB ((l[k]?.getD [])[j]?.getD default))), (91, .ro (.ints .i64 ((l[k]?.getD [])[j]?.getD default).co)), (92, .int .i64 (((l[k]?.getD [])[j]?.getD default).co.length : Nat)), (93, .int .i64 (i : Nat))], [(0, some ⟨.rows 1 [[.ro (.ints .u8 (bs ++ (tB s l k ++ (hdB s (l[k]?.getD []) ++ (fB s (l[k]?.getD []) j ++ (pk ((l[k]?.getD [])[j]?.getD default).len (sz1 s) ++ (pk ((l[k]?.getD [])[j]?.getD default).order (sz2 s) ++ (pk (bitB ((l[k]?.getD [])[j]?.getD default).down) 1 ++ (pk (bitB (narB ((l[k]?.getD [])[j]?.getD default))) 1 ++ cB ((l[k]?.getD [])[j]?.getD default) i)))))))))]], true, 45⟩), (2, some ⟨.rows 5 [[.int .i64 (sz0 s), .int .i64 (sz1 s), .int .i64 (sz2 s), .int .i64 (sz3 s), .int .i64 (sz4 s)]], true, 86⟩), (3, some ⟨.rows 5 [[.int .i64 ((l[k]?.getD [])[j]?.getD default).len, .int .i64 ((l[k]?.getD [])[j]?.getD default).order, .bool ((l[k]?.getD [])[j]?.getD default).down, .bool ((l[k]?.getD [])[j]?.getD default).fine, .ro (.ints .i64 ((l[k]?.getD [])[j]?.getD default).co)]], true, 35⟩)], 4⟩ ∧ m_ = ((l[k]?.getD [])[j]?.getD default).co.length - i) _ ⟨[(3, .ptr 0 0 0 1), (9, .fn 60 [.ptr 0 0 0 1]), (10, .ptr 2 0 0 1), (30, .ro (.rows 1 (l.map fun w => [.ro (.rows 5 (w.map Fl.row))]))), (31, .int .i64 (l.length : Nat)), (32, .int .i64 (k : Nat)), (52, .ro (.rows 5 ((l[k]?.getD []).map Fl.row))), (53, .int .i64 ((l[k]?.getD []).length : Nat)), (54, .int .i64 (j : Nat)), (14, .ptr 3 0 0 1), (15, .int .i64 (widB ((l[k]?.getD [])[j]?.getD default).fine)), (16, .bool (narB ((l[k]?.getD [])[j]?.getD default))), (91, .ro (.ints .i64 ((l[k]?.getD [])[j]?.getD default).co)), (92, .int .i64 (((l[k]?.getD [])[j]?.getD default).co.length : Nat)), (93, .int .i64 (0 : Nat))], [(0, some ⟨.rows 1 [[.ro (.ints .u8 (bs ++ (tB s l k ++ (hdB s (l[k]?.getD []) ++ (fB s (l[k]?.getD []) j ++ (pk ((l[k]?.getD [])[j]?.getD default).len (sz1 s) ++ (pk ((l[k]?.getD [])[j]?.getD default).order (sz2 s) ++ (pk (bitB ((l[k]?.getD [])[j]?.getD default).down) 1 ++ (pk (bitB (narB ((l[k]?.getD [])[j]?.getD default))) 1 ++ cB ((l[k]?.getD [])[j]?.getD default) 0)))))))))]], true, 45⟩), (2, some ⟨.rows 5 [[.int .i64 (sz0 s), .int .i64 (sz1 s), .int .i64 (sz2 s), .int .i64 (sz3 s), .int .i64 (sz4 s)]], true, 86⟩), (3, some ⟨.rows 5 [[.int .i64 ((l[k]?.getD [])[j]?.getD default).len, .int .i64 ((l[k]?.getD [])[j]?.getD default).order, .bool ((l[k]?.getD [])[j]?.getD default).down, .bool ((l[k]?.getD [])[j]?.getD default).fine, .ro (.ints .i64 ((l[k]?.getD [])[j]?.getD default).co)]], true, 35⟩)], 4⟩ ⟨by simp [getT, PV.lo, lo1], by simp [getH, Blk.lo, Cells.lo, lo1, cB], rfl, by omega⟩ ⟨(0), by (first | omega | (simp only [IntKind.wrap_i64] at *; omega) | (simp_all; done) | (simp_all; omega)), rfl, rfl⟩ ?_
            rintro m_ s_ ⟨i, hL58_0, rfl, rfl⟩ KL58 hL58
            have hiw : IntKind.i64.wrap ((i : Int) + 1) = (((i + 1 : Nat)) : Int) := wnext (by omega)
            have hcl := @cB_len ((l[k]?.getD [])[j]?.getD default) i
            refine swp_seq fun K59 hK59 => ?_
            refine swp_region ty_ok ?_
            try simp (maxSteps := 1000000) [runs, gd, step1, need, evu, un, opnds, opv, ev, cst, cst1, cstL, getT, getH, putT, onL, nxt, argT, cellsOf, PV.one, thn, inBlk, jmp, fldP, ldP, ldC, live, Cells.len, Cells.get, Cells.w, sug, ldv, bin, ops2, sh2, binv, Tk.agg, stC, apC, rdS, apS, mvL, zp, argsP, idx, fillP, toInts, chunks, mkC, ixS, ixA, oidx, slP, sl0, mxF, bltn, frzA, frz, frzL, frz1, pur1, Cells.pur, PV.scal, scal1, runD, rdO, PV.ids, id1, zids, ety, Eff.on, cnd, minb, and1b, ifmax, ifmin, mxv, sugI, strv, w0, w1, w2, wm1, szP]
            repeat' (first | apply And.intro | intro _)
            any_goals (first | (refine hK59 _ ?_; clear hK59) | (first | omega | (simp only [IntKind.wrap_i64] at *; omega) | (simp_all; done) | (simp_all; omega)))
            refine swp_seq fun K60 hK60 => ?_
            refine swp_if fun C61 hC61 => ?_
            try simp (maxSteps := 1000000) [runs, gd, step1, need, evu, un, opnds, opv, ev, cst, cst1, cstL, getT, getH, putT, onL, nxt, argT, cellsOf, PV.one, thn, inBlk, jmp, fldP, ldP, ldC, live, Cells.len, Cells.get, Cells.w, sug, ldv, bin, ops2, sh2, binv, Tk.agg, stC, apC, rdS, apS, mvL, zp, argsP, idx, fillP, toInts, chunks, mkC, ixS, ixA, oidx, slP, sl0, mxF, bltn, frzA, frz, frzL, frz1, pur1, Cells.pur, PV.scal, scal1, runD, rdO, PV.ids, id1, zids, ety, Eff.on, cnd, minb, and1b, ifmax, ifmin, mxv, sugI, strv, w0, w1, w2, wm1, szP]
            refine hC61 _ (fun hc61 => ?_) (fun hc61 => ?_)
            · clear hC61
              try simp at hc61
              refine swp_skip ?_
              simp only [thn, inBlk]
              refine hK60 _ ?_; clear hK60
              refine swp_seq fun K62 hK62 => ?_
              refine swp_block ?_
              refine swp_seq fun K63 hK63 => ?_
              have hsi := cB_succ ((l[k]?.getD [])[j]?.getD default) i (by omega)
              refine swp_region ty_ok ?_
              try simp (maxSteps := 1000000) [runs, gd, step1, need, evu, un, opnds, opv, ev, cst, cst1, cstL, getT, getH, putT, onL, nxt, argT, cellsOf, PV.one, thn, inBlk, jmp, fldP, ldP, ldC, live, Cells.len, Cells.get, Cells.w, sug, ldv, bin, ops2, sh2, binv, Tk.agg, stC, apC, rdS, apS, mvL, zp, argsP, idx, fillP, toInts, chunks, mkC, ixS, ixA, oidx, slP, sl0, mxF, bltn, frzA, frz, frzL, frz1, pur1, Cells.pur, PV.scal, scal1, runD, rdO, PV.ids, id1, zids, ety, Eff.on, cnd, minb, and1b, ifmax, ifmin, mxv, sugI, strv, w0, w1, w2, wm1, szP]
              repeat' (first | apply And.intro | intro _)
              any_goals (first | (refine hK63 _ ?_; clear hK63) | (first | omega | (simp only [IntKind.wrap_i64] at *; omega) | (simp_all; done) | (simp_all; omega)))
              refine swp_region ty_ok ?_
              refine runs_cut 4 fun R64 hR64 => ?_
              try simp (maxSteps := 1000000) [runs, gd, step1, need, evu, un, opnds, opv, ev, cst, cst1, cstL, getT, getH, putT, onL, nxt, argT, cellsOf, PV.one, thn, inBlk, jmp, fldP, ldP, ldC, live, Cells.len, Cells.get, Cells.w, sug, ldv, bin, ops2, sh2, binv, Tk.agg, stC, apC, rdS, apS, mvL, zp, argsP, idx, fillP, toInts, chunks, mkC, ixS, ixA, oidx, slP, sl0, mxF, bltn, frzA, frz, frzL, frz1, pur1, Cells.pur, PV.scal, scal1, runD, rdO, PV.ids, id1, zids, ety, Eff.on, cnd, minb, and1b, ifmax, ifmin, mxv, sugI, strv, w0, w1, w2, wm1, szP, hwd2, List.take_succ_cons, List.take_zero, List.drop_succ_cons, List.drop_zero]
              repeat' (first | apply And.intro | intro _)
              any_goals (first | (refine hR64 _ ?_; clear hR64) | (first | omega | (simp only [IntKind.wrap_i64] at *; omega) | (simp_all; done) | (simp_all; omega)))
              refine runs_cut 1 fun R65 hR65 => ?_
              try simp (maxSteps := 1000000) [runs, gd, step1, need, evu, un, opnds, opv, ev, cst, cst1, cstL, getT, getH, putT, onL, nxt, argT, cellsOf, PV.one, thn, inBlk, jmp, fldP, ldP, ldC, live, Cells.len, Cells.get, Cells.w, sug, ldv, bin, ops2, sh2, binv, Tk.agg, stC, apC, rdS, apS, mvL, zp, argsP, idx, fillP, toInts, chunks, mkC, ixS, ixA, oidx, slP, sl0, mxF, bltn, frzA, frz, frzL, frz1, pur1, Cells.pur, PV.scal, scal1, runD, rdO, PV.ids, id1, zids, ety, Eff.on, cnd, minb, and1b, ifmax, ifmin, mxv, sugI, strv, w0, w1, w2, wm1, szP, hwd2, List.take_succ_cons, List.take_zero, List.drop_succ_cons, List.drop_zero]
              refine .inl ⟨_, tnsbits_bit_ok _, ?_⟩
              try simp (maxSteps := 1000000) [runs, gd, step1, need, evu, un, opnds, opv, ev, cst, cst1, cstL, getT, getH, putT, onL, nxt, argT, cellsOf, PV.one, thn, inBlk, jmp, fldP, ldP, ldC, live, Cells.len, Cells.get, Cells.w, sug, ldv, bin, ops2, sh2, binv, Tk.agg, stC, apC, rdS, apS, mvL, zp, argsP, idx, fillP, toInts, chunks, mkC, ixS, ixA, oidx, slP, sl0, mxF, bltn, frzA, frz, frzL, frz1, pur1, Cells.pur, PV.scal, scal1, runD, rdO, PV.ids, id1, zids, ety, Eff.on, cnd, minb, and1b, ifmax, ifmin, mxv, sugI, strv, w0, w1, w2, wm1, szP, hwd2]
              repeat' (first | apply And.intro | intro _)
              any_goals (first | (refine hR65 _ ?_; clear hR65) | (first | omega | (simp only [IntKind.wrap_i64] at *; omega) | (simp_all; done) | (simp_all; omega)))
              refine runs_cut 1 fun R66 hR66 => ?_
              try simp (maxSteps := 1000000) [runs, gd, step1, need, evu, un, opnds, opv, ev, cst, cst1, cstL, getT, getH, putT, onL, nxt, argT, cellsOf, PV.one, thn, inBlk, jmp, fldP, ldP, ldC, live, Cells.len, Cells.get, Cells.w, sug, ldv, bin, ops2, sh2, binv, Tk.agg, stC, apC, rdS, apS, mvL, zp, argsP, idx, fillP, toInts, chunks, mkC, ixS, ixA, oidx, slP, sl0, mxF, bltn, frzA, frz, frzL, frz1, pur1, Cells.pur, PV.scal, scal1, runD, rdO, PV.ids, id1, zids, ety, Eff.on, cnd, minb, and1b, ifmax, ifmin, mxv, sugI, strv, w0, w1, w2, wm1, szP, hwd2, List.take_succ_cons, List.take_zero, List.drop_succ_cons, List.drop_zero]
              repeat' (first | apply And.intro | intro _)
              any_goals (first | (refine hR66 _ ?_; clear hR66) | (first | omega | (simp only [IntKind.wrap_i64] at *; omega) | (simp_all; done) | (simp_all; omega)))
              try simp (maxSteps := 1000000) [runs, gd, step1, need, evu, un, opnds, opv, ev, cst, cst1, cstL, getT, getH, putT, onL, nxt, argT, cellsOf, PV.one, thn, inBlk, jmp, fldP, ldP, ldC, live, Cells.len, Cells.get, Cells.w, sug, ldv, bin, ops2, sh2, binv, Tk.agg, stC, apC, rdS, apS, mvL, zp, argsP, idx, fillP, toInts, chunks, mkC, ixS, ixA, oidx, slP, sl0, mxF, bltn, frzA, frz, frzL, frz1, pur1, Cells.pur, PV.scal, scal1, runD, rdO, PV.ids, id1, zids, ety, Eff.on, cnd, minb, and1b, ifmax, ifmin, mxv, sugI, strv, w0, w1, w2, wm1, szP, hwd2, List.take_succ_cons, List.take_zero, List.drop_succ_cons, List.drop_zero]
              refine .inr (hcl_mk (tns_put1_4 (bs ++ (tB s l k ++ (hdB s (l[k]?.getD []) ++ (fB s (l[k]?.getD []) j ++ (pk ((l[k]?.getD [])[j]?.getD default).len (sz1 s) ++ (pk ((l[k]?.getD [])[j]?.getD default).order (sz2 s) ++ (pk (bitB ((l[k]?.getD [])[j]?.getD default).down) 1 ++ (pk (bitB (narB ((l[k]?.getD [])[j]?.getD default))) 1 ++ cB ((l[k]?.getD [])[j]?.getD default) i)))))))) (((l[k]?.getD [])[j]?.getD default).co[i]?.getD 0) (cszB ((l[k]?.getD [])[j]?.getD default)) (by omega) (by simp [pk_len]; omega)) (by simp [PV.ids, id1, getH, Blk.inL, Cells.inL, inL1]) (by simp [PV.inL, inL1]) (by simp) ?_)
              try simp (maxSteps := 1000000) [runs, gd, step1, need, evu, un, opnds, opv, ev, cst, cst1, cstL, getT, getH, putT, onL, nxt, argT, cellsOf, PV.one, thn, inBlk, jmp, fldP, ldP, ldC, live, Cells.len, Cells.get, Cells.w, sug, ldv, bin, ops2, sh2, binv, Tk.agg, stC, apC, rdS, apS, mvL, zp, argsP, idx, fillP, toInts, chunks, mkC, ixS, ixA, oidx, slP, sl0, mxF, bltn, frzA, frz, frzL, frz1, pur1, Cells.pur, PV.scal, scal1, runD, rdO, PV.ids, id1, zids, ety, Eff.on, cnd, minb, and1b, ifmax, ifmin, mxv, sugI, strv, w0, w1, w2, wm1, szP, hwd2]
              repeat' (first | apply And.intro | intro _)
              any_goals (first | (refine hK62 _ ?_; clear hK62) | (first | omega | (simp only [IntKind.wrap_i64] at *; omega) | (simp_all; done) | (simp_all; omega)))
              refine swp_region ty_ok ?_
              try simp (maxSteps := 1000000) [runs, gd, step1, need, evu, un, opnds, opv, ev, cst, cst1, cstL, getT, getH, putT, onL, nxt, argT, cellsOf, PV.one, thn, inBlk, jmp, fldP, ldP, ldC, live, Cells.len, Cells.get, Cells.w, sug, ldv, bin, ops2, sh2, binv, Tk.agg, stC, apC, rdS, apS, mvL, zp, argsP, idx, fillP, toInts, chunks, mkC, ixS, ixA, oidx, slP, sl0, mxF, bltn, frzA, frz, frzL, frz1, pur1, Cells.pur, PV.scal, scal1, runD, rdO, PV.ids, id1, zids, ety, Eff.on, cnd, minb, and1b, ifmax, ifmin, mxv, sugI, strv, w0, w1, w2, wm1, szP]
              repeat' apply And.intro
              any_goals (try omega)
              refine hL58 _ ⟨[(3, .ptr 0 0 0 1), (9, .fn 60 [.ptr 0 0 0 1]), (10, .ptr 2 0 0 1), (30, .ro (.rows 1 (l.map fun w => [.ro (.rows 5 (w.map Fl.row))]))), (31, .int .i64 (l.length : Nat)), (32, .int .i64 (k : Nat)), (52, .ro (.rows 5 ((l[k]?.getD []).map Fl.row))), (53, .int .i64 ((l[k]?.getD []).length : Nat)), (54, .int .i64 (j : Nat)), (14, .ptr 3 0 0 1), (15, .int .i64 (widB ((l[k]?.getD [])[j]?.getD default).fine)), (16, .bool (narB ((l[k]?.getD [])[j]?.getD default))), (91, .ro (.ints .i64 ((l[k]?.getD [])[j]?.getD default).co)), (92, .int .i64 (((l[k]?.getD [])[j]?.getD default).co.length : Nat)), (93, .int .i64 ((i + 1) : Nat))], [(0, some ⟨.rows 1 [[.ro (.ints .u8 (bs ++ (tB s l k ++ (hdB s (l[k]?.getD []) ++ (fB s (l[k]?.getD []) j ++ (pk ((l[k]?.getD [])[j]?.getD default).len (sz1 s) ++ (pk ((l[k]?.getD [])[j]?.getD default).order (sz2 s) ++ (pk (bitB ((l[k]?.getD [])[j]?.getD default).down) 1 ++ (pk (bitB (narB ((l[k]?.getD [])[j]?.getD default))) 1 ++ cB ((l[k]?.getD [])[j]?.getD default) (i + 1))))))))))]], true, 45⟩), (2, some ⟨.rows 5 [[.int .i64 (sz0 s), .int .i64 (sz1 s), .int .i64 (sz2 s), .int .i64 (sz3 s), .int .i64 (sz4 s)]], true, 86⟩), (3, some ⟨.rows 5 [[.int .i64 ((l[k]?.getD [])[j]?.getD default).len, .int .i64 ((l[k]?.getD [])[j]?.getD default).order, .bool ((l[k]?.getD [])[j]?.getD default).down, .bool ((l[k]?.getD [])[j]?.getD default).fine, .ro (.ints .i64 ((l[k]?.getD [])[j]?.getD default).co)]], true, 35⟩)], 4⟩ _ ?_ ⟨(i + 1), by (first | omega | (simp only [IntKind.wrap_i64] at *; omega) | (simp_all; done) | (simp_all; omega)), rfl, rfl⟩ ⟨by simp [getT, PV.lo, lo1, hiw], by simp [getH, Blk.lo, Cells.lo, lo1, hsi], rfl, by omega⟩
              omega
            · clear hC61
              try simp at hc61
              refine swp_exit ?_
              simp [thn, inBlk]
              refine hK36 _ ?_; clear hK36
              refine swp_region ty_ok ?_
              try simp (maxSteps := 1000000) [runs, gd, step1, need, evu, un, opnds, opv, ev, cst, cst1, cstL, getT, getH, putT, onL, nxt, argT, cellsOf, PV.one, thn, inBlk, jmp, fldP, ldP, ldC, live, Cells.len, Cells.get, Cells.w, sug, ldv, bin, ops2, sh2, binv, Tk.agg, stC, apC, rdS, apS, mvL, zp, argsP, idx, fillP, toInts, chunks, mkC, ixS, ixA, oidx, slP, sl0, mxF, bltn, frzA, frz, frzL, frz1, pur1, Cells.pur, PV.scal, scal1, runD, rdO, PV.ids, id1, zids, ety, Eff.on, cnd, minb, and1b, ifmax, ifmin, mxv, sugI, strv, w0, w1, w2, wm1, szP]
              repeat' apply And.intro
              any_goals (try omega)
              refine hL32 _ ⟨[(3, .ptr 0 0 0 1), (9, .fn 60 [.ptr 0 0 0 1]), (10, .ptr 2 0 0 1), (30, .ro (.rows 1 (l.map fun w => [.ro (.rows 5 (w.map Fl.row))]))), (31, .int .i64 (l.length : Nat)), (32, .int .i64 (k : Nat)), (52, .ro (.rows 5 ((l[k]?.getD []).map Fl.row))), (53, .int .i64 ((l[k]?.getD []).length : Nat)), (54, .int .i64 ((j + 1) : Nat))], [(0, some ⟨.rows 1 [[.ro (.ints .u8 (bs ++ (tB s l k ++ (hdB s (l[k]?.getD []) ++ fB s (l[k]?.getD []) (j + 1)))))]], true, 45⟩), (2, some ⟨.rows 5 [[.int .i64 (sz0 s), .int .i64 (sz1 s), .int .i64 (sz2 s), .int .i64 (sz3 s), .int .i64 (sz4 s)]], true, 86⟩)], 3⟩ _ ?_ ⟨(j + 1), by (first | omega | (simp only [IntKind.wrap_i64] at *; omega) | (simp_all; done) | (simp_all; omega)), rfl, rfl⟩ ⟨by simp [getT, PV.lo, lo1, hjw], by (first | (have hie : i = ((l[k]?.getD [])[j]?.getD default).co.length := (by omega); have hfe : filB s ((l[k]?.getD [])[j]?.getD default) = pk ((l[k]?.getD [])[j]?.getD default).len (sz1 s) ++ (pk ((l[k]?.getD [])[j]?.getD default).order (sz2 s) ++ (pk (bitB ((l[k]?.getD [])[j]?.getD default).down) 1 ++ (pk (bitB (narB ((l[k]?.getD [])[j]?.getD default))) 1 ++ cB ((l[k]?.getD [])[j]?.getD default) i))) := (by rw [filB, if_neg (by assumption), hie]); simp [getH, Blk.lo, Cells.lo, lo1, hsj, hfe]) | (have hfe : filB s ((l[k]?.getD [])[j]?.getD default) = pk ((l[k]?.getD [])[j]?.getD default).len (sz1 s) ++ pk ((l[k]?.getD [])[j]?.getD default).order (sz2 s) := (by rw [filB, if_pos (by assumption), List.append_nil]); simp [getH, Blk.lo, Cells.lo, lo1, hsj, hfe])), rfl, by omega⟩
              omega
        · clear hC35
          try simp at hc35
          refine swp_exit ?_
          simp [thn, inBlk]
          refine hK22 _ ?_; clear hK22
          refine swp_region ty_ok ?_
          try simp (maxSteps := 1000000) [runs, gd, step1, need, evu, un, opnds, opv, ev, cst, cst1, cstL, getT, getH, putT, onL, nxt, argT, cellsOf, PV.one, thn, inBlk, jmp, fldP, ldP, ldC, live, Cells.len, Cells.get, Cells.w, sug, ldv, bin, ops2, sh2, binv, Tk.agg, stC, apC, rdS, apS, mvL, zp, argsP, idx, fillP, toInts, chunks, mkC, ixS, ixA, oidx, slP, sl0, mxF, bltn, frzA, frz, frzL, frz1, pur1, Cells.pur, PV.scal, scal1, runD, rdO, PV.ids, id1, zids, ety, Eff.on, cnd, minb, and1b, ifmax, ifmin, mxv, sugI, strv, w0, w1, w2, wm1, szP]
          repeat' apply And.intro
          any_goals (try omega)
          refine hL18 _ ⟨[(3, .ptr 0 0 0 1), (9, .fn 60 [.ptr 0 0 0 1]), (10, .ptr 2 0 0 1), (30, .ro (.rows 1 (l.map fun w => [.ro (.rows 5 (w.map Fl.row))]))), (31, .int .i64 (l.length : Nat)), (32, .int .i64 ((k + 1) : Nat))], [(0, some ⟨.rows 1 [[.ro (.ints .u8 (bs ++ tB s l (k + 1)))]], true, 45⟩), (2, some ⟨.rows 5 [[.int .i64 (sz0 s), .int .i64 (sz1 s), .int .i64 (sz2 s), .int .i64 (sz3 s), .int .i64 (sz4 s)]], true, 86⟩)], 3⟩ _ ?_ ⟨(k + 1), by (first | omega | (simp only [IntKind.wrap_i64] at *; omega) | (simp_all; done) | (simp_all; omega)), rfl, rfl⟩ ⟨by simp [getT, PV.lo, lo1, hkw], by (have hje : j = (l[k]?.getD []).length := (by omega); simp [getH, Blk.lo, Cells.lo, lo1, hsc, winB, hje]), rfl, by omega⟩
          omega
      · clear hC28
        try simp at hc28
        refine swp_skip ?_
        simp only [thn, inBlk]
        refine hK26 _ ?_; clear hK26
        refine swp_seq fun K67 hK67 => ?_
        refine swp_region ty_ok ?_
        try simp (maxSteps := 1000000) [runs, gd, step1, need, evu, un, opnds, opv, ev, cst, cst1, cstL, getT, getH, putT, onL, nxt, argT, cellsOf, PV.one, thn, inBlk, jmp, fldP, ldP, ldC, live, Cells.len, Cells.get, Cells.w, sug, ldv, bin, ops2, sh2, binv, Tk.agg, stC, apC, rdS, apS, mvL, zp, argsP, idx, fillP, toInts, chunks, mkC, ixS, ixA, oidx, slP, sl0, mxF, bltn, frzA, frz, frzL, frz1, pur1, Cells.pur, PV.scal, scal1, runD, rdO, PV.ids, id1, zids, ety, Eff.on, cnd, minb, and1b, ifmax, ifmin, mxv, sugI, strv, w0, w1, w2, wm1, szP]
        repeat' (first | apply And.intro | intro _)
        any_goals (first | (refine hK67 _ ?_; clear hK67) | (first | omega | (simp only [IntKind.wrap_i64] at *; omega) | (simp_all; done) | (simp_all; omega)))
        refine swp_block ?_
        have hhd : hdB s (l[k]?.getD []) = pk ((l[k]?.getD []).length : Nat) (sz0 s) := by rw [hdB, if_neg (by simp_all), List.append_nil]
        refine swp_loop 3 (fun m_ s_ => ∃ (j : Nat), (j ≤ (l[k]?.getD []).length) ∧ s_ = ⟨[(3, .ptr 0 0 0 1), (9, .fn 60 [.ptr 0 0 0 1]), (10, .ptr 2 0 0 1), (30, .ro (.rows 1 (l.map fun w => [.ro (.rows 5 (w.map Fl.row))]))), (31, .int .i64 (l.length : Nat)), (32, .int .i64 (k : Nat)), (52, .ro (.rows 5 ((l[k]?.getD []).map Fl.row))), (53, .int .i64 ((l[k]?.getD []).length : Nat)), (54, .int .i64 (j : Nat))], [(0, some ⟨.rows 1 [[.ro (.ints .u8 (bs ++ (tB s l k ++ (hdB s (l[k]?.getD []) ++ fB s (l[k]?.getD []) j))))]], true, 45⟩), (2, some ⟨.rows 5 [[.int .i64 (sz0 s), .int .i64 (sz1 s), .int .i64 (sz2 s), .int .i64 (sz3 s), .int .i64 (sz4 s)]], true, 86⟩)], 3⟩ ∧ m_ = (l[k]?.getD []).length - j) _ ⟨[(3, .ptr 0 0 0 1), (9, .fn 60 [.ptr 0 0 0 1]), (10, .ptr 2 0 0 1), (30, .ro (.rows 1 (l.map fun w => [.ro (.rows 5 (w.map Fl.row))]))), (31, .int .i64 (l.length : Nat)), (32, .int .i64 (k : Nat)), (52, .ro (.rows 5 ((l[k]?.getD []).map Fl.row))), (53, .int .i64 ((l[k]?.getD []).length : Nat)), (54, .int .i64 (0 : Nat))], [(0, some ⟨.rows 1 [[.ro (.ints .u8 (bs ++ (tB s l k ++ (hdB s (l[k]?.getD []) ++ fB s (l[k]?.getD []) 0))))]], true, 45⟩), (2, some ⟨.rows 5 [[.int .i64 (sz0 s), .int .i64 (sz1 s), .int .i64 (sz2 s), .int .i64 (sz3 s), .int .i64 (sz4 s)]], true, 86⟩)], 3⟩ ⟨by simp [getT, PV.lo, lo1], by simp [getH, Blk.lo, Cells.lo, lo1, hhd, fB], rfl, by omega⟩ ⟨(0), by (first | omega | (simp only [IntKind.wrap_i64] at *; omega) | (simp_all; done) | (simp_all; omega)), rfl, rfl⟩ ?_
        rintro m_ s_ ⟨j, hL68_0, rfl, rfl⟩ KL68 hL68
        have hjw : IntKind.i64.wrap ((j : Int) + 1) = (((j + 1 : Nat)) : Int) := wnext (by omega)
        have hfl := fB_len (fun f hf => (b2 f hf).1) j
        refine swp_seq fun K69 hK69 => ?_
        refine swp_region ty_ok ?_
        try simp (maxSteps := 1000000) [runs, gd, step1, need, evu, un, opnds, opv, ev, cst, cst1, cstL, getT, getH, putT, onL, nxt, argT, cellsOf, PV.one, thn, inBlk, jmp, fldP, ldP, ldC, live, Cells.len, Cells.get, Cells.w, sug, ldv, bin, ops2, sh2, binv, Tk.agg, stC, apC, rdS, apS, mvL, zp, argsP, idx, fillP, toInts, chunks, mkC, ixS, ixA, oidx, slP, sl0, mxF, bltn, frzA, frz, frzL, frz1, pur1, Cells.pur, PV.scal, scal1, runD, rdO, PV.ids, id1, zids, ety, Eff.on, cnd, minb, and1b, ifmax, ifmin, mxv, sugI, strv, w0, w1, w2, wm1, szP]
        repeat' (first | apply And.intro | intro _)
        any_goals (first | (refine hK69 _ ?_; clear hK69) | (first | omega | (simp only [IntKind.wrap_i64] at *; omega) | (simp_all; done) | (simp_all; omega)))
        refine swp_seq fun K70 hK70 => ?_
        refine swp_if fun C71 hC71 => ?_
        try simp (maxSteps := 1000000) [runs, gd, step1, need, evu, un, opnds, opv, ev, cst, cst1, cstL, getT, getH, putT, onL, nxt, argT, cellsOf, PV.one, thn, inBlk, jmp, fldP, ldP, ldC, live, Cells.len, Cells.get, Cells.w, sug, ldv, bin, ops2, sh2, binv, Tk.agg, stC, apC, rdS, apS, mvL, zp, argsP, idx, fillP, toInts, chunks, mkC, ixS, ixA, oidx, slP, sl0, mxF, bltn, frzA, frz, frzL, frz1, pur1, Cells.pur, PV.scal, scal1, runD, rdO, PV.ids, id1, zids, ety, Eff.on, cnd, minb, and1b, ifmax, ifmin, mxv, sugI, strv, w0, w1, w2, wm1, szP]
        refine hC71 _ (fun hc71 => ?_) (fun hc71 => ?_)
        · clear hC71
          try simp at hc71
          refine swp_skip ?_
          simp only [thn, inBlk]
          refine hK70 _ ?_; clear hK70
          refine swp_seq fun K72 hK72 => ?_
          refine swp_block ?_
          refine swp_seq fun K73 hK73 => ?_
          have hrj := row_at (ws := (l[k]?.getD [])) (k := j) (by omega)
          have hmj : ((l[k]?.getD [])[j]?.getD default) ∈ (l[k]?.getD []) := mem_at (by omega)
          obtain ⟨c1, c2⟩ := b2 _ hmj
          obtain ⟨d1, d2, d3, d4, d5⟩ := right_ok c1
          obtain ⟨e1, e2⟩ := wid_bd ((l[k]?.getD [])[j]?.getD default).fine
          obtain ⟨e3, e4⟩ := csz_bd ((l[k]?.getD [])[j]?.getD default)
          have hsj := fB_succ s (l[k]?.getD []) j (by omega)
          have hwd1 : IntKind.i64.wrap (widB ((l[k]?.getD [])[j]?.getD default).fine - 1) = widB ((l[k]?.getD [])[j]?.getD default).fine - 1 := w64 (by omega)
          have hwd2 : IntKind.i64.wrap (widB ((l[k]?.getD [])[j]?.getD default).fine - bitB (narB ((l[k]?.getD [])[j]?.getD default))) = cszB ((l[k]?.getD [])[j]?.getD default) := by show IntKind.i64.wrap (cszB ((l[k]?.getD [])[j]?.getD default)) = _; exact w64 (by omega)
          refine swp_region ty_ok ?_
          try simp (maxSteps := 1000000) [runs, gd, step1, need, evu, un, opnds, opv, ev, cst, cst1, cstL, getT, getH, putT, onL, nxt, argT, cellsOf, PV.one, thn, inBlk, jmp, fldP, ldP, ldC, live, Cells.len, Cells.get, Cells.w, sug, ldv, bin, ops2, sh2, binv, Tk.agg, stC, apC, rdS, apS, mvL, zp, argsP, idx, fillP, toInts, chunks, mkC, ixS, ixA, oidx, slP, sl0, mxF, bltn, frzA, frz, frzL, frz1, pur1, Cells.pur, PV.scal, scal1, runD, rdO, PV.ids, id1, zids, ety, Eff.on, cnd, minb, and1b, ifmax, ifmin, mxv, sugI, strv, w0, w1, w2, wm1, szP, hrj]
          repeat' (first | apply And.intro | intro _)
          any_goals (first | (refine hK73 _ ?_; clear hK73) | (first | omega | (simp only [IntKind.wrap_i64] at *; omega) | (simp_all; done) | (simp_all; omega)))
          refine swp_seq fun K74 hK74 => ?_
          refine swp_region ty_ok ?_
          refine runs_cut 5 fun R75 hR75 => ?_
          try simp (maxSteps := 1000000) [runs, gd, step1, need, evu, un, opnds, opv, ev, cst, cst1, cstL, getT, getH, putT, onL, nxt, argT, cellsOf, PV.one, thn, inBlk, jmp, fldP, ldP, ldC, live, Cells.len, Cells.get, Cells.w, sug, ldv, bin, ops2, sh2, binv, Tk.agg, stC, apC, rdS, apS, mvL, zp, argsP, idx, fillP, toInts, chunks, mkC, ixS, ixA, oidx, slP, sl0, mxF, bltn, frzA, frz, frzL, frz1, pur1, Cells.pur, PV.scal, scal1, runD, rdO, PV.ids, id1, zids, ety, Eff.on, cnd, minb, and1b, ifmax, ifmin, mxv, sugI, strv, w0, w1, w2, wm1, szP, List.take_succ_cons, List.take_zero, List.drop_succ_cons, List.drop_zero]
          repeat' (first | apply And.intro | intro _)
          any_goals (first | (refine hR75 _ ?_; clear hR75) | (first | omega | (simp only [IntKind.wrap_i64] at *; omega) | (simp_all; done) | (simp_all; omega)))
          try simp (maxSteps := 1000000) [runs, gd, step1, need, evu, un, opnds, opv, ev, cst, cst1, cstL, getT, getH, putT, onL, nxt, argT, cellsOf, PV.one, thn, inBlk, jmp, fldP, ldP, ldC, live, Cells.len, Cells.get, Cells.w, sug, ldv, bin, ops2, sh2, binv, Tk.agg, stC, apC, rdS, apS, mvL, zp, argsP, idx, fillP, toInts, chunks, mkC, ixS, ixA, oidx, slP, sl0, mxF, bltn, frzA, frz, frzL, frz1, pur1, Cells.pur, PV.scal, scal1, runD, rdO, PV.ids, id1, zids, ety, Eff.on, cnd, minb, and1b, ifmax, ifmin, mxv, sugI, strv, w0, w1, w2, wm1, szP, List.take_succ_cons, List.take_zero, List.drop_succ_cons, List.drop_zero]
          refine .inr (hcl_mk (tns_put1_4 (bs ++ (tB s l k ++ (hdB s (l[k]?.getD []) ++ fB s (l[k]?.getD []) j))) (((l[k]?.getD [])[j]?.getD default).len) (sz1 s) (by omega) (by simp [pk_len]; omega)) (by simp [PV.ids, id1, getH, Blk.inL, Cells.inL, inL1]) (by simp [PV.inL, inL1]) (by simp) ?_)
          try simp (maxSteps := 1000000) [runs, gd, step1, need, evu, un, opnds, opv, ev, cst, cst1, cstL, getT, getH, putT, onL, nxt, argT, cellsOf, PV.one, thn, inBlk, jmp, fldP, ldP, ldC, live, Cells.len, Cells.get, Cells.w, sug, ldv, bin, ops2, sh2, binv, Tk.agg, stC, apC, rdS, apS, mvL, zp, argsP, idx, fillP, toInts, chunks, mkC, ixS, ixA, oidx, slP, sl0, mxF, bltn, frzA, frz, frzL, frz1, pur1, Cells.pur, PV.scal, scal1, runD, rdO, PV.ids, id1, zids, ety, Eff.on, cnd, minb, and1b, ifmax, ifmin, mxv, sugI, strv, w0, w1, w2, wm1, szP]
          repeat' (first | apply And.intro | intro _)
          any_goals (first | (refine hK74 _ ?_; clear hK74) | (first | omega | (simp only [IntKind.wrap_i64] at *; omega) | (simp_all; done) | (simp_all; omega)))
          refine swp_seq fun K76 hK76 => ?_
          refine swp_region ty_ok ?_
          refine runs_cut 5 fun R77 hR77 => ?_
          try simp (maxSteps := 1000000) [runs, gd, step1, need, evu, un, opnds, opv, ev, cst, cst1, cstL, getT, getH, putT, onL, nxt, argT, cellsOf, PV.one, thn, inBlk, jmp, fldP, ldP, ldC, live, Cells.len, Cells.get, Cells.w, sug, ldv, bin, ops2, sh2, binv, Tk.agg, stC, apC, rdS, apS, mvL, zp, argsP, idx, fillP, toInts, chunks, mkC, ixS, ixA, oidx, slP, sl0, mxF, bltn, frzA, frz, frzL, frz1, pur1, Cells.pur, PV.scal, scal1, runD, rdO, PV.ids, id1, zids, ety, Eff.on, cnd, minb, and1b, ifmax, ifmin, mxv, sugI, strv, w0, w1, w2, wm1, szP, List.take_succ_cons, List.take_zero, List.drop_succ_cons, List.drop_zero]
          repeat' (first | apply And.intro | intro _)
          any_goals (first | (refine hR77 _ ?_; clear hR77) | (first | omega | (simp only [IntKind.wrap_i64] at *; omega) | (simp_all; done) | (simp_all; omega)))
          try simp (maxSteps := 1000000) [runs, gd, step1, need, evu, un, opnds, opv, ev, cst, cst1, cstL, getT, getH, putT, onL, nxt, argT, cellsOf, PV.one, thn, inBlk, jmp, fldP, ldP, ldC, live, Cells.len, Cells.get, Cells.w, sug, ldv, bin, ops2, sh2, binv, Tk.agg, stC, apC, rdS, apS, mvL, zp, argsP, idx, fillP, toInts, chunks, mkC, ixS, ixA, oidx, slP, sl0, mxF, bltn, frzA, frz, frzL, frz1, pur1, Cells.pur, PV.scal, scal1, runD, rdO, PV.ids, id1, zids, ety, Eff.on, cnd, minb, and1b, ifmax, ifmin, mxv, sugI, strv, w0, w1, w2, wm1, szP, List.take_succ_cons, List.take_zero, List.drop_succ_cons, List.drop_zero]
          refine .inr (hcl_mk (tns_put1_4 (bs ++ (tB s l k ++ (hdB s (l[k]?.getD []) ++ (fB s (l[k]?.getD []) j ++ pk ((l[k]?.getD [])[j]?.getD default).len (sz1 s))))) (((l[k]?.getD [])[j]?.getD default).order) (sz2 s) (by omega) (by simp [pk_len]; omega)) (by simp [PV.ids, id1, getH, Blk.inL, Cells.inL, inL1]) (by simp [PV.inL, inL1]) (by simp) ?_)
          try simp (maxSteps := 1000000) [runs, gd, step1, need, evu, un, opnds, opv, ev, cst, cst1, cstL, getT, getH, putT, onL, nxt, argT, cellsOf, PV.one, thn, inBlk, jmp, fldP, ldP, ldC, live, Cells.len, Cells.get, Cells.w, sug, ldv, bin, ops2, sh2, binv, Tk.agg, stC, apC, rdS, apS, mvL, zp, argsP, idx, fillP, toInts, chunks, mkC, ixS, ixA, oidx, slP, sl0, mxF, bltn, frzA, frz, frzL, frz1, pur1, Cells.pur, PV.scal, scal1, runD, rdO, PV.ids, id1, zids, ety, Eff.on, cnd, minb, and1b, ifmax, ifmin, mxv, sugI, strv, w0, w1, w2, wm1, szP]
          repeat' (first | apply And.intro | intro _)
          any_goals (first | (refine hK76 _ ?_; clear hK76) | (first | omega | (simp only [IntKind.wrap_i64] at *; omega) | (simp_all; done) | (simp_all; omega)))
          refine swp_seq fun K78 hK78 => ?_
          refine swp_seq fun K79 hK79 => ?_
          refine swp_region ty_ok ?_
          try simp (maxSteps := 1000000) [runs, gd, step1, need, evu, un, opnds, opv, ev, cst, cst1, cstL, getT, getH, putT, onL, nxt, argT, cellsOf, PV.one, thn, inBlk, jmp, fldP, ldP, ldC, live, Cells.len, Cells.get, Cells.w, sug, ldv, bin, ops2, sh2, binv, Tk.agg, stC, apC, rdS, apS, mvL, zp, argsP, idx, fillP, toInts, chunks, mkC, ixS, ixA, oidx, slP, sl0, mxF, bltn, frzA, frz, frzL, frz1, pur1, Cells.pur, PV.scal, scal1, runD, rdO, PV.ids, id1, zids, ety, Eff.on, cnd, minb, and1b, ifmax, ifmin, mxv, sugI, strv, w0, w1, w2, wm1, szP]
          repeat' (first | apply And.intro | intro _)
          any_goals (first | (refine hK79 _ ?_; clear hK79) | (first | omega | (simp only [IntKind.wrap_i64] at *; omega) | (simp_all; done) | (simp_all; omega)))
          refine swp_if fun C80 hC80 => ?_
          try simp (maxSteps := 1000000) [runs, gd, step1, need, evu, un, opnds, opv, ev, cst, cst1, cstL, getT, getH, putT, onL, nxt, argT, cellsOf, PV.one, thn, inBlk, jmp, fldP, ldP, ldC, live, Cells.len, Cells.get, Cells.w, sug, ldv, bin, ops2, sh2, binv, Tk.agg, stC, apC, rdS, apS, mvL, zp, argsP, idx, fillP, toInts, chunks, mkC, ixS, ixA, oidx, slP, sl0, mxF, bltn, frzA, frz, frzL, frz1, pur1, Cells.pur, PV.scal, scal1, runD, rdO, PV.ids, id1, zids, ety, Eff.on, cnd, minb, and1b, ifmax, ifmin, mxv, sugI, strv, w0, w1, w2, wm1, szP]
          refine hC80 _ (fun hc80 => ?_) (fun hc80 => ?_)
          · clear hC80
            try simp at hc80
            refine swp_exit ?_
            simp [thn, inBlk]
            refine hK72 _ ?_; clear hK72
            refine swp_region ty_ok ?_
            try simp (maxSteps := 1000000) [runs, gd, step1, need, evu, un, opnds, opv, ev, cst, cst1, cstL, getT, getH, putT, onL, nxt, argT, cellsOf, PV.one, thn, inBlk, jmp, fldP, ldP, ldC, live, Cells.len, Cells.get, Cells.w, sug, ldv, bin, ops2, sh2, binv, Tk.agg, stC, apC, rdS, apS, mvL, zp, argsP, idx, fillP, toInts, chunks, mkC, ixS, ixA, oidx, slP, sl0, mxF, bltn, frzA, frz, frzL, frz1, pur1, Cells.pur, PV.scal, scal1, runD, rdO, PV.ids, id1, zids, ety, Eff.on, cnd, minb, and1b, ifmax, ifmin, mxv, sugI, strv, w0, w1, w2, wm1, szP]
            repeat' apply And.intro
            any_goals (try omega)
            refine hL68 _ ⟨[(3, .ptr 0 0 0 1), (9, .fn 60 [.ptr 0 0 0 1]), (10, .ptr 2 0 0 1), (30, .ro (.rows 1 (l.map fun w => [.ro (.rows 5 (w.map Fl.row))]))), (31, .int .i64 (l.length : Nat)), (32, .int .i64 (k : Nat)), (52, .ro (.rows 5 ((l[k]?.getD []).map Fl.row))), (53, .int .i64 ((l[k]?.getD []).length : Nat)), (54, .int .i64 ((j + 1) : Nat))], [(0, some ⟨.rows 1 [[.ro (.ints .u8 (bs ++ (tB s l k ++ (hdB s (l[k]?.getD []) ++ fB s (l[k]?.getD []) (j + 1)))))]], true, 45⟩), (2, some ⟨.rows 5 [[.int .i64 (sz0 s), .int .i64 (sz1 s), .int .i64 (sz2 s), .int .i64 (sz3 s), .int .i64 (sz4 s)]], true, 86⟩)], 3⟩ _ ?_ ⟨(j + 1), by (first | omega | (simp only [IntKind.wrap_i64] at *; omega) | (simp_all; done) | (simp_all; omega)), rfl, rfl⟩ ⟨by simp [getT, PV.lo, lo1, hjw], by (first | (have hie : i = ((l[k]?.getD [])[j]?.getD default).co.length := (by omega); have hfe : filB s ((l[k]?.getD [])[j]?.getD default) = pk ((l[k]?.getD [])[j]?.getD default).len (sz1 s) ++ (pk ((l[k]?.getD [])[j]?.getD default).order (sz2 s) ++ (pk (bitB ((l[k]?.getD [])[j]?.getD default).down) 1 ++ (pk (bitB (narB ((l[k]?.getD [])[j]?.getD default))) 1 ++ cB ((l[k]?.getD [])[j]?.getD default) i))) := (by rw [filB, if_neg (by assumption), hie]); simp [getH, Blk.lo, Cells.lo, lo1, hsj, hfe]) | (have hfe : filB s ((l[k]?.getD [])[j]?.getD default) = pk ((l[k]?.getD [])[j]?.getD default).len (sz1 s) ++ pk ((l[k]?.getD [])[j]?.getD default).order (sz2 s) := (by rw [filB, if_pos (by assumption), List.append_nil]); simp [getH, Blk.lo, Cells.lo, lo1, hsj, hfe])), rfl, by omega⟩
            omega
          · clear hC80
            try simp at hc80
            refine swp_skip ?_
            simp only [thn, inBlk]
            refine hK78 _ ?_; clear hK78
            refine swp_seq fun K81 hK81 => ?_
            refine swp_region ty_ok ?_
            refine runs_cut 2 fun R82 hR82 => ?_
            try simp (maxSteps := 1000000) [runs, gd, step1, need, evu, un, opnds, opv, ev, cst, cst1, cstL, getT, getH, putT, onL, nxt, argT, cellsOf, PV.one, thn, inBlk, jmp, fldP, ldP, ldC, live, Cells.len, Cells.get, Cells.w, sug, ldv, bin, ops2, sh2, binv, Tk.agg, stC, apC, rdS, apS, mvL, zp, argsP, idx, fillP, toInts, chunks, mkC, ixS, ixA, oidx, slP, sl0, mxF, bltn, frzA, frz, frzL, frz1, pur1, Cells.pur, PV.scal, scal1, runD, rdO, PV.ids, id1, zids, ety, Eff.on, cnd, minb, and1b, ifmax, ifmin, mxv, sugI, strv, w0, w1, w2, wm1, szP, List.take_succ_cons, List.take_zero, List.drop_succ_cons, List.drop_zero]
            repeat' (first | apply And.intro | intro _)
            any_goals (first | (refine hR82 _ ?_; clear hR82) | (first | omega | (simp only [IntKind.wrap_i64] at *; omega) | (simp_all; done) | (simp_all; omega)))
            refine runs_cut 1 fun R83 hR83 => ?_
            try simp (maxSteps := 1000000) [runs, gd, step1, need, evu, un, opnds, opv, ev, cst, cst1, cstL, getT, getH, putT, onL, nxt, argT, cellsOf, PV.one, thn, inBlk, jmp, fldP, ldP, ldC, live, Cells.len, Cells.get, Cells.w, sug, ldv, bin, ops2, sh2, binv, Tk.agg, stC, apC, rdS, apS, mvL, zp, argsP, idx, fillP, toInts, chunks, mkC, ixS, ixA, oidx, slP, sl0, mxF, bltn, frzA, frz, frzL, frz1, pur1, Cells.pur, PV.scal, scal1, runD, rdO, PV.ids, id1, zids, ety, Eff.on, cnd, minb, and1b, ifmax, ifmin, mxv, sugI, strv, w0, w1, w2, wm1, szP, List.take_succ_cons, List.take_zero, List.drop_succ_cons, List.drop_zero]
            refine .inl ⟨_, tnsbits_wide_ok _, ?_⟩
            try simp (maxSteps := 1000000) [runs, gd, step1, need, evu, un, opnds, opv, ev, cst, cst1, cstL, getT, getH, putT, onL, nxt, argT, cellsOf, PV.one, thn, inBlk, jmp, fldP, ldP, ldC, live, Cells.len, Cells.get, Cells.w, sug, ldv, bin, ops2, sh2, binv, Tk.agg, stC, apC, rdS, apS, mvL, zp, argsP, idx, fillP, toInts, chunks, mkC, ixS, ixA, oidx, slP, sl0, mxF, bltn, frzA, frz, frzL, frz1, pur1, Cells.pur, PV.scal, scal1, runD, rdO, PV.ids, id1, zids, ety, Eff.on, cnd, minb, and1b, ifmax, ifmin, mxv, sugI, strv, w0, w1, w2, wm1, szP]
            repeat' (first | apply And.intro | intro _)
            any_goals (first | (refine hR83 _ ?_; clear hR83) | (first | omega | (simp only [IntKind.wrap_i64] at *; omega) | (simp_all; done) | (simp_all; omega)))
            try simp (maxSteps := 1000000) [runs, gd, step1, need, evu, un, opnds, opv, ev, cst, cst1, cstL, getT, getH, putT, onL, nxt, argT, cellsOf, PV.one, thn, inBlk, jmp, fldP, ldP, ldC, live, Cells.len, Cells.get, Cells.w, sug, ldv, bin, ops2, sh2, binv, Tk.agg, stC, apC, rdS, apS, mvL, zp, argsP, idx, fillP, toInts, chunks, mkC, ixS, ixA, oidx, slP, sl0, mxF, bltn, frzA, frz, frzL, frz1, pur1, Cells.pur, PV.scal, scal1, runD, rdO, PV.ids, id1, zids, ety, Eff.on, cnd, minb, and1b, ifmax, ifmin, mxv, sugI, strv, w0, w1, w2, wm1, szP, List.take_succ_cons, List.take_zero, List.drop_succ_cons, List.drop_zero]
            repeat' (first | apply And.intro | intro _)
            any_goals (first | (refine hK81 _ ?_; clear hK81) | (first | omega | (simp only [IntKind.wrap_i64] at *; omega) | (simp_all; done) | (simp_all; omega)))
            refine swp_seq fun K84 hK84 => ?_
            refine swp_region ty_ok ?_
            refine runs_cut 4 fun R85 hR85 => ?_
            try simp (maxSteps := 1000000) [runs, gd, step1, need, evu, un, opnds, opv, ev, cst, cst1, cstL, getT, getH, putT, onL, nxt, argT, cellsOf, PV.one, thn, inBlk, jmp, fldP, ldP, ldC, live, Cells.len, Cells.get, Cells.w, sug, ldv, bin, ops2, sh2, binv, Tk.agg, stC, apC, rdS, apS, mvL, zp, argsP, idx, fillP, toInts, chunks, mkC, ixS, ixA, oidx, slP, sl0, mxF, bltn, frzA, frz, frzL, frz1, pur1, Cells.pur, PV.scal, scal1, runD, rdO, PV.ids, id1, zids, ety, Eff.on, cnd, minb, and1b, ifmax, ifmin, mxv, sugI, strv, w0, w1, w2, wm1, szP, hwd1, List.take_succ_cons, List.take_zero, List.drop_succ_cons, List.drop_zero]
            repeat' (first | apply And.intro | intro _)
            any_goals (first | (refine hR85 _ ?_; clear hR85) | (first | omega | (simp only [IntKind.wrap_i64] at *; omega) | (simp_all; done) | (simp_all; omega)))
            refine runs_cut 1 fun R86 hR86 => ?_
            try simp (maxSteps := 1000000) [runs, gd, step1, need, evu, un, opnds, opv, ev, cst, cst1, cstL, getT, getH, putT, onL, nxt, argT, cellsOf, PV.one, thn, inBlk, jmp, fldP, ldP, ldC, live, Cells.len, Cells.get, Cells.w, sug, ldv, bin, ops2, sh2, binv, Tk.agg, stC, apC, rdS, apS, mvL, zp, argsP, idx, fillP, toInts, chunks, mkC, ixS, ixA, oidx, slP, sl0, mxF, bltn, frzA, frz, frzL, frz1, pur1, Cells.pur, PV.scal, scal1, runD, rdO, PV.ids, id1, zids, ety, Eff.on, cnd, minb, and1b, ifmax, ifmin, mxv, sugI, strv, w0, w1, w2, wm1, szP, hwd1, List.take_succ_cons, List.take_zero, List.drop_succ_cons, List.drop_zero]
            refine .inl ⟨_, (show PCall _ _ [.ro (.ints .i64 ((l[k]?.getD [])[j]?.getD default).co), .int .i64 (widB ((l[k]?.getD [])[j]?.getD default).fine - 1)] (.bool (narB ((l[k]?.getD [])[j]?.getD default))) from tnsbits_fit_ok ((l[k]?.getD [])[j]?.getD default).co (widB ((l[k]?.getD [])[j]?.getD default).fine - 1) (by omega) (by omega)), ?_⟩
            try simp (maxSteps := 1000000) [runs, gd, step1, need, evu, un, opnds, opv, ev, cst, cst1, cstL, getT, getH, putT, onL, nxt, argT, cellsOf, PV.one, thn, inBlk, jmp, fldP, ldP, ldC, live, Cells.len, Cells.get, Cells.w, sug, ldv, bin, ops2, sh2, binv, Tk.agg, stC, apC, rdS, apS, mvL, zp, argsP, idx, fillP, toInts, chunks, mkC, ixS, ixA, oidx, slP, sl0, mxF, bltn, frzA, frz, frzL, frz1, pur1, Cells.pur, PV.scal, scal1, runD, rdO, PV.ids, id1, zids, ety, Eff.on, cnd, minb, and1b, ifmax, ifmin, mxv, sugI, strv, w0, w1, w2, wm1, szP, hwd1]
            repeat' (first | apply And.intro | intro _)
            any_goals (first | (refine hR86 _ ?_; clear hR86) | (first | omega | (simp only [IntKind.wrap_i64] at *; omega) | (simp_all; done) | (simp_all; omega)))
            try simp (maxSteps := 1000000) [runs, gd, step1, need, evu, un, opnds, opv, ev, cst, cst1, cstL, getT, getH, putT, onL, nxt, argT, cellsOf, PV.one, thn, inBlk, jmp, fldP, ldP, ldC, live, Cells.len, Cells.get, Cells.w, sug, ldv, bin, ops2, sh2, binv, Tk.agg, stC, apC, rdS, apS, mvL, zp, argsP, idx, fillP, toInts, chunks, mkC, ixS, ixA, oidx, slP, sl0, mxF, bltn, frzA, frz, frzL, frz1, pur1, Cells.pur, PV.scal, scal1, runD, rdO, PV.ids, id1, zids, ety, Eff.on, cnd, minb, and1b, ifmax, ifmin, mxv, sugI, strv, w0, w1, w2, wm1, szP, hwd1, List.take_succ_cons, List.take_zero, List.drop_succ_cons, List.drop_zero]
            repeat' (first | apply And.intro | intro _)
            any_goals (first | (refine hK84 _ ?_; clear hK84) | (first | omega | (simp only [IntKind.wrap_i64] at *; omega) | (simp_all; done) | (simp_all; omega)))
            refine swp_seq fun K87 hK87 => ?_
            refine swp_region ty_ok ?_
            refine runs_cut 3 fun R88 hR88 => ?_
            try simp (maxSteps := 1000000) [runs, gd, step1, need, evu, un, opnds, opv, ev, cst, cst1, cstL, getT, getH, putT, onL, nxt, argT, cellsOf, PV.one, thn, inBlk, jmp, fldP, ldP, ldC, live, Cells.len, Cells.get, Cells.w, sug, ldv, bin, ops2, sh2, binv, Tk.agg, stC, apC, rdS, apS, mvL, zp, argsP, idx, fillP, toInts, chunks, mkC, ixS, ixA, oidx, slP, sl0, mxF, bltn, frzA, frz, frzL, frz1, pur1, Cells.pur, PV.scal, scal1, runD, rdO, PV.ids, id1, zids, ety, Eff.on, cnd, minb, and1b, ifmax, ifmin, mxv, sugI, strv, w0, w1, w2, wm1, szP, List.take_succ_cons, List.take_zero, List.drop_succ_cons, List.drop_zero]
            repeat' (first | apply And.intro | intro _)
            any_goals (first | (refine hR88 _ ?_; clear hR88) | (first | omega | (simp only [IntKind.wrap_i64] at *; omega) | (simp_all; done) | (simp_all; omega)))
            refine runs_cut 1 fun R89 hR89 => ?_
            try simp (maxSteps := 1000000) [runs, gd, step1, need, evu, un, opnds, opv, ev, cst, cst1, cstL, getT, getH, putT, onL, nxt, argT, cellsOf, PV.one, thn, inBlk, jmp, fldP, ldP, ldC, live, Cells.len, Cells.get, Cells.w, sug, ldv, bin, ops2, sh2, binv, Tk.agg, stC, apC, rdS, apS, mvL, zp, argsP, idx, fillP, toInts, chunks, mkC, ixS, ixA, oidx, slP, sl0, mxF, bltn, frzA, frz, frzL, frz1, pur1, Cells.pur, PV.scal, scal1, runD, rdO, PV.ids, id1, zids, ety, Eff.on, cnd, minb, and1b, ifmax, ifmin, mxv, sugI, strv, w0, w1, w2, wm1, szP, List.take_succ_cons, List.take_zero, List.drop_succ_cons, List.drop_zero]
            refine .inl ⟨_, tnsbits_bit_ok _, ?_⟩
            try simp (maxSteps := 1000000) [runs, gd, step1, need, evu, un, opnds, opv, ev, cst, cst1, cstL, getT, getH, putT, onL, nxt, argT, cellsOf, PV.one, thn, inBlk, jmp, fldP, ldP, ldC, live, Cells.len, Cells.get, Cells.w, sug, ldv, bin, ops2, sh2, binv, Tk.agg, stC, apC, rdS, apS, mvL, zp, argsP, idx, fillP, toInts, chunks, mkC, ixS, ixA, oidx, slP, sl0, mxF, bltn, frzA, frz, frzL, frz1, pur1, Cells.pur, PV.scal, scal1, runD, rdO, PV.ids, id1, zids, ety, Eff.on, cnd, minb, and1b, ifmax, ifmin, mxv, sugI, strv, w0, w1, w2, wm1, szP]
            repeat' (first | apply And.intro | intro _)
            any_goals (first | (refine hR89 _ ?_; clear hR89) | (first | omega | (simp only [IntKind.wrap_i64] at *; omega) | (simp_all; done) | (simp_all; omega)))
            try simp (maxSteps := 1000000) [runs, gd, step1, need, evu, un, opnds, opv, ev, cst, cst1, cstL, getT, getH, putT, onL, nxt, argT, cellsOf, PV.one, thn, inBlk, jmp, fldP, ldP, ldC, live, Cells.len, Cells.get, Cells.w, sug, ldv, bin, ops2, sh2, binv, Tk.agg, stC, apC, rdS, apS, mvL, zp, argsP, idx, fillP, toInts, chunks, mkC, ixS, ixA, oidx, slP, sl0, mxF, bltn, frzA, frz, frzL, frz1, pur1, Cells.pur, PV.scal, scal1, runD, rdO, PV.ids, id1, zids, ety, Eff.on, cnd, minb, and1b, ifmax, ifmin, mxv, sugI, strv, w0, w1, w2, wm1, szP, List.take_succ_cons, List.take_zero, List.drop_succ_cons, List.drop_zero]
            refine .inr (hcl_mk (tns_put1_4 (bs ++ (tB s l k ++ (hdB s (l[k]?.getD []) ++ (fB s (l[k]?.getD []) j ++ (pk ((l[k]?.getD [])[j]?.getD default).len (sz1 s) ++ pk ((l[k]?.getD [])[j]?.getD default).order (sz2 s)))))) (bitB ((l[k]?.getD [])[j]?.getD default).down) (1) (by omega) (by simp [pk_len]; omega)) (by simp [PV.ids, id1, getH, Blk.inL, Cells.inL, inL1]) (by simp [PV.inL, inL1]) (by simp) ?_)
            try simp (maxSteps := 1000000) [runs, gd, step1, need, evu, un, opnds, opv, ev, cst, cst1, cstL, getT, getH, putT, onL, nxt, argT, cellsOf, PV.one, thn, inBlk, jmp, fldP, ldP, ldC, live, Cells.len, Cells.get, Cells.w, sug, ldv, bin, ops2, sh2, binv, Tk.agg, stC, apC, rdS, apS, mvL, zp, argsP, idx, fillP, toInts, chunks, mkC, ixS, ixA, oidx, slP, sl0, mxF, bltn, frzA, frz, frzL, frz1, pur1, Cells.pur, PV.scal, scal1, runD, rdO, PV.ids, id1, zids, ety, Eff.on, cnd, minb, and1b, ifmax, ifmin, mxv, sugI, strv, w0, w1, w2, wm1, szP]
            repeat' (first | apply And.intro | intro _)
            any_goals (first | (refine hK87 _ ?_; clear hK87) | (first | omega | (simp only [IntKind.wrap_i64] at *; omega) | (simp_all; done) | (simp_all; omega)))
            refine swp_seq fun K90 hK90 => ?_
            refine swp_region ty_ok ?_
            refine runs_cut 2 fun R91 hR91 => ?_
            try simp (maxSteps := 1000000) [runs, gd, step1, need, evu, un, opnds, opv, ev, cst, cst1, cstL, getT, getH, putT, onL, nxt, argT, cellsOf, PV.one, thn, inBlk, jmp, fldP, ldP, ldC, live, Cells.len, Cells.get, Cells.w, sug, ldv, bin, ops2, sh2, binv, Tk.agg, stC, apC, rdS, apS, mvL, zp, argsP, idx, fillP, toInts, chunks, mkC, ixS, ixA, oidx, slP, sl0, mxF, bltn, frzA, frz, frzL, frz1, pur1, Cells.pur, PV.scal, scal1, runD, rdO, PV.ids, id1, zids, ety, Eff.on, cnd, minb, and1b, ifmax, ifmin, mxv, sugI, strv, w0, w1, w2, wm1, szP, List.take_succ_cons, List.take_zero, List.drop_succ_cons, List.drop_zero]
            repeat' (first | apply And.intro | intro _)
            any_goals (first | (refine hR91 _ ?_; clear hR91) | (first | omega | (simp only [IntKind.wrap_i64] at *; omega) | (simp_all; done) | (simp_all; omega)))
            refine runs_cut 1 fun R92 hR92 => ?_
            try simp (maxSteps := 1000000) [runs, gd, step1, need, evu, un, opnds, opv, ev, cst, cst1, cstL, getT, getH, putT, onL, nxt, argT, cellsOf, PV.one, thn, inBlk, jmp, fldP, ldP, ldC, live, Cells.len, Cells.get, Cells.w, sug, ldv, bin, ops2, sh2, binv, Tk.agg, stC, apC, rdS, apS, mvL, zp, argsP, idx, fillP, toInts, chunks, mkC, ixS, ixA, oidx, slP, sl0, mxF, bltn, frzA, frz, frzL, frz1, pur1, Cells.pur, PV.scal, scal1, runD, rdO, PV.ids, id1, zids, ety, Eff.on, cnd, minb, and1b, ifmax, ifmin, mxv, sugI, strv, w0, w1, w2, wm1, szP, List.take_succ_cons, List.take_zero, List.drop_succ_cons, List.drop_zero]
            refine .inl ⟨_, tnsbits_bit_ok _, ?_⟩
            try simp (maxSteps := 1000000) [runs, gd, step1, need, evu, un, opnds, opv, ev, cst, cst1, cstL, getT, getH, putT, onL, nxt, argT, cellsOf, PV.one, thn, inBlk, jmp, fldP, ldP, ldC, live, Cells.len, Cells.get, Cells.w, sug, ldv, bin, ops2, sh2, binv, Tk.agg, stC, apC, rdS, apS, mvL, zp, argsP, idx, fillP, toInts, chunks, mkC, ixS, ixA, oidx, slP, sl0, mxF, bltn, frzA, frz, frzL, frz1, pur1, Cells.pur, PV.scal, scal1, runD, rdO, PV.ids, id1, zids, ety, Eff.on, cnd, minb, and1b, ifmax, ifmin, mxv, sugI, strv, w0, w1, w2, wm1, szP]
            repeat' (first | apply And.intro | intro _)
            any_goals (first | (refine hR92 _ ?_; clear hR92) | (first | omega | (simp only [IntKind.wrap_i64] at *; omega) | (simp_all; done) | (simp_all; omega)))
            try simp (maxSteps := 1000000) [runs, gd, step1, need, evu, un, opnds, opv, ev, cst, cst1, cstL, getT, getH, putT, onL, nxt, argT, cellsOf, PV.one, thn, inBlk, jmp, fldP, ldP, ldC, live, Cells.len, Cells.get, Cells.w, sug, ldv, bin, ops2, sh2, binv, Tk.agg, stC, apC, rdS, apS, mvL, zp, argsP, idx, fillP, toInts, chunks, mkC, ixS, ixA, oidx, slP, sl0, mxF, bltn, frzA, frz, frzL, frz1, pur1, Cells.pur, PV.scal, scal1, runD, rdO, PV.ids, id1, zids, ety, Eff.on, cnd, minb, and1b, ifmax, ifmin, mxv, sugI, strv, w0, w1, w2, wm1, szP, List.take_succ_cons, List.take_zero, List.drop_succ_cons, List.drop_zero]
            refine .inr (hcl_mk (tns_put1_4 (bs ++ (tB s l k ++ (hdB s (l[k]?.getD []) ++ (fB s (l[k]?.getD []) j ++ (pk ((l[k]?.getD [])[j]?.getD default).len (sz1 s) ++ (pk ((l[k]?.getD [])[j]?.getD default).order (sz2 s) ++ pk (bitB ((l[k]?.getD [])[j]?.getD default).down) 1)))))) (bitB (narB ((l[k]?.getD [])[j]?.getD default))) (1) (by omega) (by simp [pk_len]; omega)) (by simp [PV.ids, id1, getH, Blk.inL, Cells.inL, inL1]) (by simp [PV.inL, inL1]) (by simp) ?_)
            try simp (maxSteps := 1000000) [runs, gd, step1, need, evu, un, opnds, opv, ev, cst, cst1, cstL, getT, getH, putT, onL, nxt, argT, cellsOf, PV.one, thn, inBlk, jmp, fldP, ldP, ldC, live, Cells.len, Cells.get, Cells.w, sug, ldv, bin, ops2, sh2, binv, Tk.agg, stC, apC, rdS, apS, mvL, zp, argsP, idx, fillP, toInts, chunks, mkC, ixS, ixA, oidx, slP, sl0, mxF, bltn, frzA, frz, frzL, frz1, pur1, Cells.pur, PV.scal, scal1, runD, rdO, PV.ids, id1, zids, ety, Eff.on, cnd, minb, and1b, ifmax, ifmin, mxv, sugI, strv, w0, w1, w2, wm1, szP]
            repeat' (first | apply And.intro | intro _)
            any_goals (first | (refine hK90 _ ?_; clear hK90) | (first | omega | (simp only [IntKind.wrap_i64] at *; omega) | (simp_all; done) | (simp_all; omega)))
            refine swp_seq fun K93 hK93 => ?_
            refine swp_region ty_ok ?_
            try simp (maxSteps := 1000000) [runs, gd, step1, need, evu, un, opnds, opv, ev, cst, cst1, cstL, getT, getH, putT, onL, nxt, argT, cellsOf, PV.one, thn, inBlk, jmp, fldP, ldP, ldC, live, Cells.len, Cells.get, Cells.w, sug, ldv, bin, ops2, sh2, binv, Tk.agg, stC, apC, rdS, apS, mvL, zp, argsP, idx, fillP, toInts, chunks, mkC, ixS, ixA, oidx, slP, sl0, mxF, bltn, frzA, frz, frzL, frz1, pur1, Cells.pur, PV.scal, scal1, runD, rdO, PV.ids, id1, zids, ety, Eff.on, cnd, minb, and1b, ifmax, ifmin, mxv, sugI, strv, w0, w1, w2, wm1, szP]
            repeat' (first | apply And.intro | intro _)
            any_goals (first | (refine hK93 _ ?_; clear hK93) | (first | omega | (simp only [IntKind.wrap_i64] at *; omega) | (simp_all; done) | (simp_all; omega)))
            refine swp_block ?_
            refine swp_loop 4 (fun m_ s_ => ∃ (i : Nat), (i ≤ ((l[k]?.getD [])[j]?.getD default).co.length) ∧ s_ = ⟨[(3, .ptr 0 0 0 1), (9, .fn 60 [.ptr 0 0 0 1]), (10, .ptr 2 0 0 1), (30, .ro (.rows 1 (l.map fun w => [.ro (.rows 5 (w.map Fl.row))]))), (31, .int .i64 (l.length : Nat)), (32, .int .i64 (k : Nat)), (52, .ro (.rows 5 ((l[k]?.getD []).map Fl.row))), (53, .int .i64 ((l[k]?.getD []).length : Nat)), (54, .int .i64 (j : Nat)), (14, .ptr 3 0 0 1), (15, .int .i64 (widB ((l[k]?.getD [])[j]?.getD default).fine)), (16, .bool (narB ((l[k]?.getD [])[j]?.getD default))), (91, .ro (.ints .i64 ((l[k]?.getD [])[j]?.getD default).co)), (92, .int .i64 (((l[k]?.getD [])[j]?.getD default).co.length : Nat)), (93, .int .i64 (i : Nat))], [(0, some ⟨.rows 1 [[.ro (.ints .u8 (bs ++ (tB s l k ++ (hdB s (l[k]?.getD []) ++ (fB s (l[k]?.getD []) j ++ (pk ((l[k]?.getD [])[j]?.getD default).len (sz1 s) ++ (pk ((l[k]?.getD [])[j]?.getD default).order (sz2 s) ++ (pk (bitB ((l[k]?.getD [])[j]?.getD default).down) 1 ++ (pk (bitB (narB ((l[k]?.getD [])[j]?.getD default))) 1 ++ cB ((l[k]?.getD [])[j]?.getD default) i)))))))))]], true, 45⟩), (2, some ⟨.rows 5 [[.int .i64 (sz0 s), .int .i64 (sz1 s), .int .i64 (sz2 s), .int .i64 (sz3 s), .int .i64 (sz4 s)]], true, 86⟩), (3, some ⟨.rows 5 [[.int .i64 ((l[k]?.getD [])[j]?.getD default).len, .int .i64 ((l[k]?.getD [])[j]?.getD default).order, .bool ((l[k]?.getD [])[j]?.getD default).down, .bool ((l[k]?.getD [])[j]?.getD default).fine, .ro (.ints .i64 ((l[k]?.getD [])[j]?.getD default).co)]], true, 35⟩)], 4⟩ ∧ m_ = ((l[k]?.getD [])[j]?.getD default).co.length - i) _ ⟨[(3, .ptr 0 0 0 1), (9, .fn 60 [.ptr 0 0 0 1]), (10, .ptr 2 0 0 1), (30, .ro (.rows 1 (l.map fun w => [.ro (.rows 5 (w.map Fl.row))]))), (31, .int .i64 (l.length : Nat)), (32, .int .i64 (k : Nat)), (52, .ro (.rows 5 ((l[k]?.getD []).map Fl.row))), (53, .int .i64 ((l[k]?.getD []).length : Nat)), (54, .int .i64 (j : Nat)), (14, .ptr 3 0 0 1), (15, .int .i64 (widB ((l[k]?.getD [])[j]?.getD default).fine)), (16, .bool (narB ((l[k]?.getD [])[j]?.getD default))), (91, .ro (.ints .i64 ((l[k]?.getD [])[j]?.getD default).co)), (92, .int .i64 (((l[k]?.getD [])[j]?.getD default).co.length : Nat)), (93, .int .i64 (0 : Nat))], [(0, some ⟨.rows 1 [[.ro (.ints .u8 (bs ++ (tB s l k ++ (hdB s (l[k]?.getD []) ++ (fB s (l[k]?.getD []) j ++ (pk ((l[k]?.getD [])[j]?.getD default).len (sz1 s) ++ (pk ((l[k]?.getD [])[j]?.getD default).order (sz2 s) ++ (pk (bitB ((l[k]?.getD [])[j]?.getD default).down) 1 ++ (pk (bitB (narB ((l[k]?.getD [])[j]?.getD default))) 1 ++ cB ((l[k]?.getD [])[j]?.getD default) 0)))))))))]], true, 45⟩), (2, some ⟨.rows 5 [[.int .i64 (sz0 s), .int .i64 (sz1 s), .int .i64 (sz2 s), .int .i64 (sz3 s), .int .i64 (sz4 s)]], true, 86⟩), (3, some ⟨.rows 5 [[.int .i64 ((l[k]?.getD [])[j]?.getD default).len, .int .i64 ((l[k]?.getD [])[j]?.getD default).order, .bool ((l[k]?.getD [])[j]?.getD default).down, .bool ((l[k]?.getD [])[j]?.getD default).fine, .ro (.ints .i64 ((l[k]?.getD [])[j]?.getD default).co)]], true, 35⟩)], 4⟩ ⟨by simp [getT, PV.lo, lo1], by simp [getH, Blk.lo, Cells.lo, lo1, cB], rfl, by omega⟩ ⟨(0), by (first | omega | (simp only [IntKind.wrap_i64] at *; omega) | (simp_all; done) | (simp_all; omega)), rfl, rfl⟩ ?_
            rintro m_ s_ ⟨i, hL94_0, rfl, rfl⟩ KL94 hL94
            have hiw : IntKind.i64.wrap ((i : Int) + 1) = (((i + 1 : Nat)) : Int) := wnext (by omega)
            have hcl := @cB_len ((l[k]?.getD [])[j]?.getD default) i
            refine swp_seq fun K95 hK95 => ?_
            refine swp_region ty_ok ?_
            try simp (maxSteps := 1000000) [runs, gd, step1, need, evu, un, opnds, opv, ev, cst, cst1, cstL, getT, getH, putT, onL, nxt, argT, cellsOf, PV.one, thn, inBlk, jmp, fldP, ldP, ldC, live, Cells.len, Cells.get, Cells.w, sug, ldv, bin, ops2, sh2, binv, Tk.agg, stC, apC, rdS, apS, mvL, zp, argsP, idx, fillP, toInts, chunks, mkC, ixS, ixA, oidx, slP, sl0, mxF, bltn, frzA, frz, frzL, frz1, pur1, Cells.pur, PV.scal, scal1, runD, rdO, PV.ids, id1, zids, ety, Eff.on, cnd, minb, and1b, ifmax, ifmin, mxv, sugI, strv, w0, w1, w2, wm1, szP]
            repeat' (first | apply And.intro | intro _)
            any_goals (first | (refine hK95 _ ?_; clear hK95) | (first | omega | (simp only [IntKind.wrap_i64] at *; omega) | (simp_all; done) | (simp_all; omega)))
            refine swp_seq fun K96 hK96 => ?_
            refine swp_if fun C97 hC97 => ?_
            try simp (maxSteps := 1000000) [runs, gd, step1, need, evu, un, opnds, opv, ev, cst, cst1, cstL, getT, getH, putT, onL, nxt, argT, cellsOf, PV.one, thn, inBlk, jmp, fldP, ldP, ldC, live, Cells.len, Cells.get, Cells.w, sug, ldv, bin, ops2, sh2, binv, Tk.agg, stC, apC, rdS, apS, mvL, zp, argsP, idx, fillP, toInts, chunks, mkC, ixS, ixA, oidx, slP, sl0, mxF, bltn, frzA, frz, frzL, frz1, pur1, Cells.pur, PV.scal, scal1, runD, rdO, PV.ids, id1, zids, ety, Eff.on, cnd, minb, and1b, ifmax, ifmin, mxv, sugI, strv, w0, w1, w2, wm1, szP]
            refine hC97 _ (fun hc97 => ?_) (fun hc97 => ?_)
            · clear hC97
              try simp at hc97
              refine swp_skip ?_
              simp only [thn, inBlk]
              refine hK96 _ ?_; clear hK96
              refine swp_seq fun K98 hK98 => ?_
              refine swp_block ?_
              refine swp_seq fun K99 hK99 => ?_
              have hsi := cB_succ ((l[k]?.getD [])[j]?.getD default) i (by omega)
              refine swp_region ty_ok ?_
              try simp (maxSteps := 1000000) [runs, gd, step1, need, evu, un, opnds, opv, ev, cst, cst1, cstL, getT, getH, putT, onL, nxt, argT, cellsOf, PV.one, thn, inBlk, jmp, fldP, ldP, ldC, live, Cells.len, Cells.get, Cells.w, sug, ldv, bin, ops2, sh2, binv, Tk.agg, stC, apC, rdS, apS, mvL, zp, argsP, idx, fillP, toInts, chunks, mkC, ixS, ixA, oidx, slP, sl0, mxF, bltn, frzA, frz, frzL, frz1, pur1, Cells.pur, PV.scal, scal1, runD, rdO, PV.ids, id1, zids, ety, Eff.on, cnd, minb, and1b, ifmax, ifmin, mxv, sugI, strv, w0, w1, w2, wm1, szP]
              repeat' (first | apply And.intro | intro _)
              any_goals (first | (refine hK99 _ ?_; clear hK99) | (first | omega | (simp only [IntKind.wrap_i64] at *; omega) | (simp_all; done) | (simp_all; omega)))
              refine swp_region ty_ok ?_
              refine runs_cut 4 fun R100 hR100 => ?_
              try simp (maxSteps := 1000000) [runs, gd, step1, need, evu, un, opnds, opv, ev, cst, cst1, cstL, getT, getH, putT, onL, nxt, argT, cellsOf, PV.one, thn, inBlk, jmp, fldP, ldP, ldC, live, Cells.len, Cells.get, Cells.w, sug, ldv, bin, ops2, sh2, binv, Tk.agg, stC, apC, rdS, apS, mvL, zp, argsP, idx, fillP, toInts, chunks, mkC, ixS, ixA, oidx, slP, sl0, mxF, bltn, frzA, frz, frzL, frz1, pur1, Cells.pur, PV.scal, scal1, runD, rdO, PV.ids, id1, zids, ety, Eff.on, cnd, minb, and1b, ifmax, ifmin, mxv, sugI, strv, w0, w1, w2, wm1, szP, hwd2, List.take_succ_cons, List.take_zero, List.drop_succ_cons, List.drop_zero]
              repeat' (first | apply And.intro | intro _)
              any_goals (first | (refine hR100 _ ?_; clear hR100) | (first | omega | (simp only [IntKind.wrap_i64] at *; omega) | (simp_all; done) | (simp_all; omega)))
              refine runs_cut 1 fun R101 hR101 => ?_
              try simp (maxSteps := 1000000) [runs, gd, step1, need, evu, un, opnds, opv, ev, cst, cst1, cstL, getT, getH, putT, onL, nxt, argT, cellsOf, PV.one, thn, inBlk, jmp, fldP, ldP, ldC, live, Cells.len, Cells.get, Cells.w, sug, ldv, bin, ops2, sh2, binv, Tk.agg, stC, apC, rdS, apS, mvL, zp, argsP, idx, fillP, toInts, chunks, mkC, ixS, ixA, oidx, slP, sl0, mxF, bltn, frzA, frz, frzL, frz1, pur1, Cells.pur, PV.scal, scal1, runD, rdO, PV.ids, id1, zids, ety, Eff.on, cnd, minb, and1b, ifmax, ifmin, mxv, sugI, strv, w0, w1, w2, wm1, szP, hwd2, List.take_succ_cons, List.take_zero, List.drop_succ_cons, List.drop_zero]
              refine .inl ⟨_, tnsbits_bit_ok _, ?_⟩
              try simp (maxSteps := 1000000) [runs, gd, step1, need, evu, un, opnds, opv, ev, cst, cst1, cstL, getT, getH, putT, onL, nxt, argT, cellsOf, PV.one, thn, inBlk, jmp, fldP, ldP, ldC, live, Cells.len, Cells.get, Cells.w, sug, ldv, bin, ops2, sh2, binv, Tk.agg, stC, apC, rdS, apS, mvL, zp, argsP, idx, fillP, toInts, chunks, mkC, ixS, ixA, oidx, slP, sl0, mxF, bltn, frzA, frz, frzL, frz1, pur1, Cells.pur, PV.scal, scal1, runD, rdO, PV.ids, id1, zids, ety, Eff.on, cnd, minb, and1b, ifmax, ifmin, mxv, sugI, strv, w0, w1, w2, wm1, szP, hwd2]
              repeat' (first | apply And.intro | intro _)
              any_goals (first | (refine hR101 _ ?_; clear hR101) | (first | omega | (simp only [IntKind.wrap_i64] at *; omega) | (simp_all; done) | (simp_all; omega)))
              refine runs_cut 1 fun R102 hR102 => ?_
              try simp (maxSteps := 1000000) [runs, gd, step1, need, evu, un, opnds, opv, ev, cst, cst1, cstL, getT, getH, putT, onL, nxt, argT, cellsOf, PV.one, thn, inBlk, jmp, fldP, ldP, ldC, live, Cells.len, Cells.get, Cells.w, sug, ldv, bin, ops2, sh2, binv, Tk.agg, stC, apC, rdS, apS, mvL, zp, argsP, idx, fillP, toInts, chunks, mkC, ixS, ixA, oidx, slP, sl0, mxF, bltn, frzA, frz, frzL, frz1, pur1, Cells.pur, PV.scal, scal1, runD, rdO, PV.ids, id1, zids, ety, Eff.on, cnd, minb, and1b, ifmax, ifmin, mxv, sugI, strv, w0, w1, w2, wm1, szP, hwd2, List.take_succ_cons, List.take_zero, List.drop_succ_cons, List.drop_zero]
              repeat' (first | apply And.intro | intro _)
              any_goals (first | (refine hR102 _ ?_; clear hR102) | (first | omega | (simp only [IntKind.wrap_i64] at *; omega) | (simp_all; done) | (simp_all; omega)))
              try simp (maxSteps := 1000000) [runs, gd, step1, need, evu, un, opnds, opv, ev, cst, cst1, cstL, getT, getH, putT, onL, nxt, argT, cellsOf, PV.one, thn, inBlk, jmp, fldP, ldP, ldC, live, Cells.len, Cells.get, Cells.w, sug, ldv, bin, ops2, sh2, binv, Tk.agg, stC, apC, rdS, apS, mvL, zp, argsP, idx, fillP, toInts, chunks, mkC, ixS, ixA, oidx, slP, sl0, mxF, bltn, frzA, frz, frzL, frz1, pur1, Cells.pur, PV.scal, scal1, runD, rdO, PV.ids, id1, zids, ety, Eff.on, cnd, minb, and1b, ifmax, ifmin, mxv, sugI, strv, w0, w1, w2, wm1, szP, hwd2, List.take_succ_cons, List.take_zero, List.drop_succ_cons, List.drop_zero]
              refine .inr (hcl_mk (tns_put1_4 (bs ++ (tB s l k ++ (hdB s (l[k]?.getD []) ++ (fB s (l[k]?.getD []) j ++ (pk ((l[k]?.getD [])[j]?.getD default).len (sz1 s) ++ (pk ((l[k]?.getD [])[j]?.getD default).order (sz2 s) ++ (pk (bitB ((l[k]?.getD [])[j]?.getD default).down) 1 ++ (pk (bitB (narB ((l[k]?.getD [])[j]?.getD default))) 1 ++ cB ((l[k]?.getD [])[j]?.getD default) i)))))))) (((l[k]?.getD [])[j]?.getD default).co[i]?.getD 0) (cszB ((l[k]?.getD [])[j]?.getD default)) (by omega) (by simp [pk_len]; omega)) (by simp [PV.ids, id1, getH, Blk.inL, Cells.inL, inL1]) (by simp [PV.inL, inL1]) (by simp) ?_)
              try simp (maxSteps := 1000000) [runs, gd, step1, need, evu, un, opnds, opv, ev, cst, cst1, cstL, getT, getH, putT, onL, nxt, argT, cellsOf, PV.one, thn, inBlk, jmp, fldP, ldP, ldC, live, Cells.len, Cells.get, Cells.w, sug, ldv, bin, ops2, sh2, binv, Tk.agg, stC, apC, rdS, apS, mvL, zp, argsP, idx, fillP, toInts, chunks, mkC, ixS, ixA, oidx, slP, sl0, mxF, bltn, frzA, frz, frzL, frz1, pur1, Cells.pur, PV.scal, scal1, runD, rdO, PV.ids, id1, zids, ety, Eff.on, cnd, minb, and1b, ifmax, ifmin, mxv, sugI, strv, w0, w1, w2, wm1, szP, hwd2]
              repeat' (first | apply And.intro | intro _)
              any_goals (first | (refine hK98 _ ?_; clear hK98) | (first | omega | (simp only [IntKind.wrap_i64] at *; omega) | (simp_all; done) | (simp_all; omega)))
              refine swp_region ty_ok ?_
              try simp (maxSteps := 1000000) [runs, gd, step1, need, evu, un, opnds, opv, ev, cst, cst1, cstL, getT, getH, putT, onL, nxt, argT, cellsOf, PV.one, thn, inBlk, jmp, fldP, ldP, ldC, live, Cells.len, Cells.get, Cells.w, sug, ldv, bin, ops2, sh2, binv, Tk.agg, stC, apC, rdS, apS, mvL, zp, argsP, idx, fillP, toInts, chunks, mkC, ixS, ixA, oidx, slP, sl0, mxF, bltn, frzA, frz, frzL, frz1, pur1, Cells.pur, PV.scal, scal1, runD, rdO, PV.ids, id1, zids, ety, Eff.on, cnd, minb, and1b, ifmax, ifmin, mxv, sugI, strv, w0, w1, w2, wm1, szP]
              repeat' apply And.intro
              any_goals (try omega)
              refine hL94 _ ⟨[(3, .ptr 0 0 0 1), (9, .fn 60 [.ptr 0 0 0 1]), (10, .ptr 2 0 0 1), (30, .ro (.rows 1 (l.map fun w => [.ro (.rows 5 (w.map Fl.row))]))), (31, .int .i64 (l.length : Nat)), (32, .int .i64 (k : Nat)), (52, .ro (.rows 5 ((l[k]?.getD []).map Fl.row))), (53, .int .i64 ((l[k]?.getD []).length : Nat)), (54, .int .i64 (j : Nat)), (14, .ptr 3 0 0 1), (15, .int .i64 (widB ((l[k]?.getD [])[j]?.getD default).fine)), (16, .bool (narB ((l[k]?.getD [])[j]?.getD default))), (91, .ro (.ints .i64 ((l[k]?.getD [])[j]?.getD default).co)), (92, .int .i64 (((l[k]?.getD [])[j]?.getD default).co.length : Nat)), (93, .int .i64 ((i + 1) : Nat))], [(0, some ⟨.rows 1 [[.ro (.ints .u8 (bs ++ (tB s l k ++ (hdB s (l[k]?.getD []) ++ (fB s (l[k]?.getD []) j ++ (pk ((l[k]?.getD [])[j]?.getD default).len (sz1 s) ++ (pk ((l[k]?.getD [])[j]?.getD default).order (sz2 s) ++ (pk (bitB ((l[k]?.getD [])[j]?.getD default).down) 1 ++ (pk (bitB (narB ((l[k]?.getD [])[j]?.getD default))) 1 ++ cB ((l[k]?.getD [])[j]?.getD default) (i + 1))))))))))]], true, 45⟩), (2, some ⟨.rows 5 [[.int .i64 (sz0 s), .int .i64 (sz1 s), .int .i64 (sz2 s), .int .i64 (sz3 s), .int .i64 (sz4 s)]], true, 86⟩), (3, some ⟨.rows 5 [[.int .i64 ((l[k]?.getD [])[j]?.getD default).len, .int .i64 ((l[k]?.getD [])[j]?.getD default).order, .bool ((l[k]?.getD [])[j]?.getD default).down, .bool ((l[k]?.getD [])[j]?.getD default).fine, .ro (.ints .i64 ((l[k]?.getD [])[j]?.getD default).co)]], true, 35⟩)], 4⟩ _ ?_ ⟨(i + 1), by (first | omega | (simp only [IntKind.wrap_i64] at *; omega) | (simp_all; done) | (simp_all; omega)), rfl, rfl⟩ ⟨by simp [getT, PV.lo, lo1, hiw], by simp [getH, Blk.lo, Cells.lo, lo1, hsi], rfl, by omega⟩
              omega
            · clear hC97
              try simp at hc97
              refine swp_exit ?_
              simp [thn, inBlk]
              refine hK72 _ ?_; clear hK72
              refine swp_region ty_ok ?_
              try simp (maxSteps := 1000000) [runs, gd, step1, need, evu, un, opnds, opv, ev, cst, cst1, cstL, getT, getH, putT, onL, nxt, argT, cellsOf, PV.one, thn, inBlk, jmp, fldP, ldP, ldC, live, Cells.len, Cells.get, Cells.w, sug, ldv, bin, ops2, sh2, binv, Tk.agg, stC, apC, rdS, apS, mvL, zp, argsP, idx, fillP, toInts, chunks, mkC, ixS, ixA, oidx, slP, sl0, mxF, bltn, frzA, frz, frzL, frz1, pur1, Cells.pur, PV.scal, scal1, runD, rdO, PV.ids, id1, zids, ety, Eff.on, cnd, minb, and1b, ifmax, ifmin, mxv, sugI, strv, w0, w1, w2, wm1, szP]
              repeat' apply And.intro
              any_goals (try omega)
              refine hL68 _ ⟨[(3, .ptr 0 0 0 1), (9, .fn 60 [.ptr 0 0 0 1]), (10, .ptr 2 0 0 1), (30, .ro (.rows 1 (l.map fun w => [.ro (.rows 5 (w.map Fl.row))]))), (31, .int .i64 (l.length : Nat)), (32, .int .i64 (k : Nat)), (52, .ro (.rows 5 ((l[k]?.getD []).map Fl.row))), (53, .int .i64 ((l[k]?.getD []).length : Nat)), (54, .int .i64 ((j + 1) : Nat))], [(0, some ⟨.rows 1 [[.ro (.ints .u8 (bs ++ (tB s l k ++ (hdB s (l[k]?.getD []) ++ fB s (l[k]?.getD []) (j + 1)))))]], true, 45⟩), (2, some ⟨.rows 5 [[.int .i64 (sz0 s), .int .i64 (sz1 s), .int .i64 (sz2 s), .int .i64 (sz3 s), .int .i64 (sz4 s)]], true, 86⟩)], 3⟩ _ ?_ ⟨(j + 1), by (first | omega | (simp only [IntKind.wrap_i64] at *; omega) | (simp_all; done) | (simp_all; omega)), rfl, rfl⟩ ⟨by simp [getT, PV.lo, lo1, hjw], by (first | (have hie : i = ((l[k]?.getD [])[j]?.getD default).co.length := (by omega); have hfe : filB s ((l[k]?.getD [])[j]?.getD default) = pk ((l[k]?.getD [])[j]?.getD default).len (sz1 s) ++ (pk ((l[k]?.getD [])[j]?.getD default).order (sz2 s) ++ (pk (bitB ((l[k]?.getD [])[j]?.getD default).down) 1 ++ (pk (bitB (narB ((l[k]?.getD [])[j]?.getD default))) 1 ++ cB ((l[k]?.getD [])[j]?.getD default) i))) := (by rw [filB, if_neg (by assumption), hie]); simp [getH, Blk.lo, Cells.lo, lo1, hsj, hfe]) | (have hfe : filB s ((l[k]?.getD [])[j]?.getD default) = pk ((l[k]?.getD [])[j]?.getD default).len (sz1 s) ++ pk ((l[k]?.getD [])[j]?.getD default).order (sz2 s) := (by rw [filB, if_pos (by assumption), List.append_nil]); simp [getH, Blk.lo, Cells.lo, lo1, hsj, hfe])), rfl, by omega⟩
              omega
        · clear hC71
          try simp at hc71
          refine swp_exit ?_
          simp [thn, inBlk]
          refine hK22 _ ?_; clear hK22
          refine swp_region ty_ok ?_
          try simp (maxSteps := 1000000) [runs, gd, step1, need, evu, un, opnds, opv, ev, cst, cst1, cstL, getT, getH, putT, onL, nxt, argT, cellsOf, PV.one, thn, inBlk, jmp, fldP, ldP, ldC, live, Cells.len, Cells.get, Cells.w, sug, ldv, bin, ops2, sh2, binv, Tk.agg, stC, apC, rdS, apS, mvL, zp, argsP, idx, fillP, toInts, chunks, mkC, ixS, ixA, oidx, slP, sl0, mxF, bltn, frzA, frz, frzL, frz1, pur1, Cells.pur, PV.scal, scal1, runD, rdO, PV.ids, id1, zids, ety, Eff.on, cnd, minb, and1b, ifmax, ifmin, mxv, sugI, strv, w0, w1, w2, wm1, szP]
          repeat' apply And.intro
          any_goals (try omega)
          refine hL18 _ ⟨[(3, .ptr 0 0 0 1), (9, .fn 60 [.ptr 0 0 0 1]), (10, .ptr 2 0 0 1), (30, .ro (.rows 1 (l.map fun w => [.ro (.rows 5 (w.map Fl.row))]))), (31, .int .i64 (l.length : Nat)), (32, .int .i64 ((k + 1) : Nat))], [(0, some ⟨.rows 1 [[.ro (.ints .u8 (bs ++ tB s l (k + 1)))]], true, 45⟩), (2, some ⟨.rows 5 [[.int .i64 (sz0 s), .int .i64 (sz1 s), .int .i64 (sz2 s), .int .i64 (sz3 s), .int .i64 (sz4 s)]], true, 86⟩)], 3⟩ _ ?_ ⟨(k + 1), by (first | omega | (simp only [IntKind.wrap_i64] at *; omega) | (simp_all; done) | (simp_all; omega)), rfl, rfl⟩ ⟨by simp [getT, PV.lo, lo1, hkw], by (have hje : j = (l[k]?.getD []).length := (by omega); simp [getH, Blk.lo, Cells.lo, lo1, hsc, winB, hje]), rfl, by omega⟩
          omega
    · clear hC21
      try simp at hc21
      refine swp_exit ?_
      simp [thn, inBlk]
      refine hK16 _ ?_; clear hK16
      refine swp_seq fun K103 hK103 => ?_
      refine swp_region ty_ok ?_
      try simp (maxSteps := 1000000) [runs, gd, step1, need, evu, un, opnds, opv, ev, cst, cst1, cstL, getT, getH, putT, onL, nxt, argT, cellsOf, PV.one, thn, inBlk, jmp, fldP, ldP, ldC, live, Cells.len, Cells.get, Cells.w, sug, ldv, bin, ops2, sh2, binv, Tk.agg, stC, apC, rdS, apS, mvL, zp, argsP, idx, fillP, toInts, chunks, mkC, ixS, ixA, oidx, slP, sl0, mxF, bltn, frzA, frz, frzL, frz1, pur1, Cells.pur, PV.scal, scal1, runD, rdO, PV.ids, id1, zids, ety, Eff.on, cnd, minb, and1b, ifmax, ifmin, mxv, sugI, strv, w0, w1, w2, wm1, szP]
      repeat' (first | apply And.intro | intro _)
      any_goals (first | (refine hK103 _ ?_; clear hK103) | (first | omega | (simp only [IntKind.wrap_i64] at *; omega) | (simp_all; done) | (simp_all; omega)))
      refine swp_ret ?_
      simp [runs, gd, step1, need, evu, un, opnds, opv, ev, cst, cst1, cstL, getT, getH, putT, onL, nxt, argT, cellsOf, PV.one, thn, inBlk, jmp, fldP, ldP, ldC, live, Cells.len, Cells.get, Cells.w, sug, ldv, bin, ops2, sh2, binv, Tk.agg, stC, apC, rdS, apS, mvL, zp, argsP, idx, fillP, toInts, chunks, mkC, ixS, ixA, oidx, slP, sl0, mxF, bltn, frzA, frz, frzL, frz1, pur1, Cells.pur, PV.scal, scal1, runD, rdO, PV.ids, id1, zids, ety, Eff.on, cnd, minb, and1b, ifmax, ifmin, mxv, sugI, strv, w0, w1, w2, wm1, fnPost, Try.results23, resP, tupOf]
      have hke : k = l.length := by omega
      exact ⟨by rw [if_pos (by assumption), hke], by assumption⟩

end Go.Proofs.Ytmkgfgdipkagbaa
