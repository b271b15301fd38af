import Derived.Test.YtmkgfgdipkagbaaWb
import Derived.Test.YtmkgfgdipkagbaaTyl
import Derived.Test.YtmkgfgdipkagbaaLband
import Derived.Test.YtmkgfgdipkagbaaLinfo
import Derived.Test.YtmkgfgdipkagbaaLinfo2
import Derived.Test.YtmkgfgdipkagbaaLbits
import Derived.Test.YtmkgfgdipkagbaaLtns
import Derived.Test.YtmkgfgdipkagbaaLtnp
import Derived.Test.YtmkgfgdipkagbaaLrd
import Derived.Test.YtmkgfgdipkagbaaLrdq
namespace Go.Proofs.Ytmkgfgdipkagbaa
set_option linter.unusedVariables false
set_option linter.unusedSimpArgs false
set_option maxRecDepth 10000
open Go Go.Pv


open Go.RowKit
def cfQ (b : List Int) (z : Int) (q : Int × Int) : Nat → Int × Int
  | 0 => q
  | k + 1 => rS b (cfQ b z q k) z
def sx (z n : Int) : Int := if 2 ^ (z - 1).toNat ≤ n then n - 2 ^ z.toNat else n
def cfV (b : List Int) (z : Int) (q : Int × Int) : Nat → List Int
  | 0 => []
  | k + 1 => cfV b z q k ++ [sx z (rN b (cfQ b z q k) z)]
def q1F (b : List Int) (s : Int) (q : Int × Int) : Int × Int := rS b q (sz1 s)
def q2F (b : List Int) (s : Int) (q : Int × Int) : Int × Int := rS b (q1F b s q) (sz2 s)
def q3F (b : List Int) (s : Int) (q : Int × Int) : Int × Int := rS b (q2F b s q) 1
def q4F (b : List Int) (s : Int) (q : Int × Int) : Int × Int := rS b (q3F b s q) 1
def oF (b : List Int) (s : Int) (q : Int × Int) : Int := rN b (q1F b s q) (sz2 s)
def dnF (b : List Int) (s : Int) (q : Int × Int) : Int := rN b (q2F b s q) 1
def nrF (b : List Int) (s : Int) (q : Int × Int) : Int := rN b (q3F b s q) 1
def zF (b : List Int) (s : Int) (fine : Bool) (q : Int × Int) : Int := widB fine - nrF b s q
def coF (b : List Int) (s : Int) (fine : Bool) (q : Int × Int) : List Int := cfV b (zF b s fine q) (q4F b s q) (oF b s q).toNat
def fF (b : List Int) (s : Int) (fine : Bool) (q : Int × Int) : Fl := if 0 < oF b s q then ⟨rN b q (sz1 s), oF b s q, decide (dnF b s q = 1), fine, coF b s fine q⟩ else ⟨rN b q (sz1 s), oF b s q, false, fine, []⟩
def qF (b : List Int) (s : Int) (fine : Bool) (q : Int × Int) : Int × Int := if 0 < oF b s q then cfQ b (zF b s fine q) (q4F b s q) (oF b s q).toNat else q2F b s q
def odF (b : List Int) (s : Int) (fine : Bool) (q : Int × Int) : Bool := if 0 < oF b s q then decide (nrF b s q = 0) && fitB (coF b s fine q) (zF b s fine q - 1) else false
def stF (b : List Int) (s : Int) (q : Int × Int) : Bool := decide (12 < oF b s q) && decide ((q2F b s q).2 = 0)
def wQ (b : List Int) (s : Int) (fine : Bool) (q : Int × Int) : Nat → Int × Int
  | 0 => q
  | j + 1 => qF b s fine (wQ b s fine q j)
def wL (b : List Int) (s : Int) (fine : Bool) (q : Int × Int) : Nat → List Fl
  | 0 => []
  | j + 1 => wL b s fine q j ++ [fF b s fine (wQ b s fine q j)]
def wO (b : List Int) (s : Int) (fine : Bool) (q : Int × Int) : Nat → Bool
  | 0 => false
  | j + 1 => wO b s fine q j || odF b s fine (wQ b s fine q j)
def wS (b : List Int) (s : Int) (fine : Bool) (q : Int × Int) : Nat → Bool
  | 0 => false
  | j + 1 => wS b s fine q j || stF b s (wQ b s fine q j)
def mW (b : List Int) (s : Int) (q : Int × Int) : Int := rN b q (sz0 s)
def q1W (b : List Int) (s : Int) (q : Int × Int) : Int × Int := rS b q (sz0 s)
def fnW (b : List Int) (s : Int) (q : Int × Int) : Bool := decide (0 < mW b s q) && decide (rN b (q1W b s q) 1 = 1)
def q2W (b : List Int) (s : Int) (q : Int × Int) : Int × Int := if 0 < mW b s q then rS b (q1W b s q) 1 else q1W b s q
def tQ (b : List Int) (s : Int) (q : Int × Int) : Nat → Int × Int
  | 0 => q
  | k + 1 => wQ b s (fnW b s (tQ b s q k)) (q2W b s (tQ b s q k)) (mW b s (tQ b s q k)).toNat
def tL (b : List Int) (s : Int) (q : Int × Int) : Nat → List (List Fl)
  | 0 => []
  | k + 1 => tL b s q k ++ [wL b s (fnW b s (tQ b s q k)) (q2W b s (tQ b s q k)) (mW b s (tQ b s q k)).toNat]
def tO (b : List Int) (s : Int) (q : Int × Int) : Nat → Bool
  | 0 => false
  | k + 1 => tO b s q k || wO b s (fnW b s (tQ b s q k)) (q2W b s (tQ b s q k)) (mW b s (tQ b s q k)).toNat
def tS (b : List Int) (s : Int) (q : Int × Int) : Nat → Bool
  | 0 => false
  | k + 1 => tS b s q k || wS b s (fnW b s (tQ b s q k)) (q2W b s (tQ b s q k)) (mW b s (tQ b s q k)).toNat
def nT (s sh m : Int) (g : List Int) : Nat := (winI s sh m g).toNat
def getTe (b : List Int) (at_ s sh m : Int) (g : List Int) : Int :=
  if winE s sh m g = 0 then (if tS b s (at_, 0) (nT s sh m g) then 8 else if (tQ b s (at_, 0) (nT s sh m g)).2 = 0 then (if tO b s (at_, 0) (nT s sh m g) then 8 else 0) else (tQ b s (at_, 0) (nT s sh m g)).2) else winE s sh m g
def getTl (b : List Int) (at_ s sh m : Int) (g : List Int) : List (List Fl) := if getTe b at_ s sh m g = 0 then tL b s (at_, 0) (nT s sh m g) else []
def getTp (b : List Int) (at_ s sh m : Int) (g : List Int) : Int := if getTe b at_ s sh m g = 0 then (tQ b s (at_, 0) (nT s sh m g)).1 else 0
theorem cfQ_bd {b : List Int} (hb : b.length ≤ 140737488355328) {q : Int × Int} (h : Bd q) (z : Int) : ∀ k, Bd (cfQ b z q k)
  | 0 => h
  | k + 1 => rS_bd hb (cfQ_bd hb h z k) z
theorem q2F_bd {b : List Int} (hb : b.length ≤ 140737488355328) {q : Int × Int} (h : Bd q) (s : Int) : Bd (q1F b s q) ∧ Bd (q2F b s q) ∧ Bd (q3F b s q) ∧ Bd (q4F b s q) := ⟨rS_bd hb h _, rS_bd hb (rS_bd hb h _) _, rS_bd hb (rS_bd hb (rS_bd hb h _) _) _, rS_bd hb (rS_bd hb (rS_bd hb (rS_bd hb h _) _) _) _⟩
theorem qF_bd {b : List Int} (hb : b.length ≤ 140737488355328) {q : Int × Int} (h : Bd q) (s : Int) (fine : Bool) : Bd (qF b s fine q) := by
  obtain ⟨h1, h2, h3, h4⟩ := q2F_bd hb h s
  unfold qF
  split
  · exact cfQ_bd hb h4 _ _
  · exact h2
theorem wQ_bd {b : List Int} (hb : b.length ≤ 140737488355328) {q : Int × Int} (h : Bd q) (s : Int) (fine : Bool) : ∀ j, Bd (wQ b s fine q j)
  | 0 => h
  | j + 1 => qF_bd hb (wQ_bd hb h s fine j) s fine
theorem q2W_bd {b : List Int} (hb : b.length ≤ 140737488355328) {q : Int × Int} (h : Bd q) (s : Int) : Bd (q1W b s q) ∧ Bd (q2W b s q) := by
  refine ⟨rS_bd hb h _, ?_⟩
  unfold q2W
  split
  · exact rS_bd hb (rS_bd hb h _) _
  · exact rS_bd hb h _
theorem tQ_bd {b : List Int} (hb : b.length ≤ 140737488355328) {q : Int × Int} (h : Bd q) (s : Int) : ∀ k, Bd (tQ b s q k)
  | 0 => h
  | k + 1 => wQ_bd hb (q2W_bd hb (tQ_bd hb h s k) s).2 s _ _
theorem cfV_len (b : List Int) (z : Int) (q : Int × Int) : ∀ k, (cfV b z q k).length = k
  | 0 => rfl
  | k + 1 => by rw [cfV, List.length_append, cfV_len b z q k]; rfl
theorem wL_len (b : List Int) (s : Int) (fine : Bool) (q : Int × Int) : ∀ k, (wL b s fine q k).length = k
  | 0 => rfl
  | k + 1 => by rw [wL, List.length_append, wL_len b s fine q k]; rfl
theorem tL_len (b : List Int) (s : Int) (q : Int × Int) : ∀ k, (tL b s q k).length = k
  | 0 => rfl
  | k + 1 => by rw [tL, List.length_append, tL_len b s q k]; rfl
theorem z2 {s : Int} {b : List Int} (hp : ∀ y ∈ b, 0 ≤ y) (q : Int × Int) : (0 ≤ mW b s q ∧ mW b s q ≤ 3) ∧ 0 ≤ oF b s q ∧ oF b s q < 32 := by
  have h := sz_bd s
  have h1 := rN_bd (b := b) (q := q) (z := sz0 s) (s := (sz0 s).toNat) hp (by omega)
  have h2 := rN_bd (b := b) (q := q1F b s q) (z := sz2 s) (s := (sz2 s).toNat) hp (by omega)
  have p1 : 2 ^ (sz0 s).toNat ≤ 2 ^ 2 := Nat.pow_le_pow_right (by omega) (by omega)
  have p2 : 2 ^ (sz2 s).toNat ≤ 2 ^ 5 := Nat.pow_le_pow_right (by omega) (by omega)
  unfold mW oF
  omega
theorem nr_bd {s : Int} {b : List Int} (hp : ∀ y ∈ b, 0 ≤ y) (q : Int × Int) : 0 ≤ nrF b s q ∧ nrF b s q ≤ 1 := by
  have := rN_bd (b := b) (q := q3F b s q) (z := 1) (s := 1) hp rfl
  unfold nrF
  omega
theorem zF_bd {s : Int} {b : List Int} (hp : ∀ y ∈ b, 0 ≤ y) (fine : Bool) (q : Int × Int) : 2 ≤ zF b s fine q ∧ zF b s fine q ≤ 4 := by
  have := nr_bd (s := s) hp q
  have := wid_bd fine
  unfold zF
  omega
theorem stop_mono {f : Nat → Bool} {g : Nat → Bool} (h : ∀ j, f (j + 1) = (f j || g j)) : ∀ {k n : Nat}, k < n → g k = true → f n = true := by
  intro k n hk hg
  induction n with
  | zero => omega
  | succ n ih =>
    rw [h]
    by_cases he : k = n
    · subst he; rw [hg, Bool.or_true]
    · rw [ih (by omega), Bool.true_or]
theorem sx_fin : ∀ (z : Fin 3) (k : Fin 16), k.val < 2 ^ (z.val + 2) → IntKind.i64.wrap ((k.val : Int) - IntKind.i64.wrap ((k.val : Int).fdiv (2 ^ min (IntKind.i64.wrap (((z.val + 2 : Nat) : Int) - 1)).toNat 64) * 2 ^ min (((z.val + 2 : Nat) : Int)).toNat 64)) = sx ((z.val + 2 : Nat) : Int) k.val := by decide +kernel
theorem sx_ok {z n : Int} (hz : 2 ≤ z ∧ z ≤ 4) (hn : 0 ≤ n ∧ n < ((2 ^ z.toNat : Nat) : Int)) : IntKind.i64.wrap (n - IntKind.i64.wrap (n.fdiv (2 ^ min (IntKind.i64.wrap (z - 1)).toNat 64) * 2 ^ min z.toNat 64)) = sx z n := by
  have hp : 2 ^ z.toNat ≤ 2 ^ 4 := Nat.pow_le_pow_right (by omega) (by omega)
  obtain ⟨k, rfl⟩ := Int.eq_ofNat_of_zero_le hn.1
  obtain ⟨y, hy⟩ := Int.eq_ofNat_of_zero_le (show 0 ≤ z - 2 by omega)
  have hz2 : z = ((y + 2 : Nat) : Int) := by omega
  subst hz2
  exact sx_fin ⟨y, by omega⟩ ⟨k, by omega⟩ (by have := hn.2; simp only [Int.toNat_natCast] at this; exact_mod_cast this)
theorem getT_1 {b : List Int} {at_ s sh m : Int} {g : List Int} {e : Int} (he : getTe b at_ s sh m g = e) (h : ¬ e = 0) : getTl b at_ s sh m g = [] ∧ getTp b at_ s sh m g = 0 ∧ getTe b at_ s sh m g = e := ⟨by rw [getTl, he, if_neg h], by rw [getTp, he, if_neg h], he⟩
theorem getT_err {b : List Int} {at_ s sh m : Int} {g : List Int} {k : Nat} (h0 : winE s sh m g = 0) (hk : k = (winI s sh m g).toNat) (h1 : tS b s (at_, 0) k = false) (h2 : ¬ (tQ b s (at_, 0) k).2 = 0) : getTe b at_ s sh m g = (tQ b s (at_, 0) k).2 := by
  have hn : nT s sh m g = k := hk.symm
  rw [getTe, if_pos h0, hn, h1, if_neg h2]
  rfl
theorem getT_odd {b : List Int} {at_ s sh m : Int} {g : List Int} {k : Nat} (h0 : winE s sh m g = 0) (hk : k = (winI s sh m g).toNat) (h1 : tS b s (at_, 0) k = false) (h2 : (tQ b s (at_, 0) k).2 = 0) (h3 : tO b s (at_, 0) k = true) : getTe b at_ s sh m g = 8 := by
  have hn : nT s sh m g = k := hk.symm
  rw [getTe, if_pos h0, hn, h1, if_pos h2, h3]
  rfl
theorem getT_fin {b : List Int} {at_ s sh m : Int} {g : List Int} {k : Nat} (h0 : winE s sh m g = 0) (hk : k = (winI s sh m g).toNat) (h1 : tS b s (at_, 0) k = false) (h2 : (tQ b s (at_, 0) k).2 = 0) (h3 : tO b s (at_, 0) k = false) : getTe b at_ s sh m g = 0 ∧ getTl b at_ s sh m g = tL b s (at_, 0) k ∧ getTp b at_ s sh m g = (tQ b s (at_, 0) k).1 := by
  have hn : nT s sh m g = k := hk.symm
  have he : getTe b at_ s sh m g = 0 := by
    rw [getTe, if_pos h0, hn, h1, if_pos h2, h3]
    rfl
  exact ⟨he, by rw [getTl, he, if_pos rfl, hn], by rw [getTp, he, if_pos rfl, hn]⟩
theorem getT_stop {b : List Int} {at_ s sh m : Int} {g : List Int} {k j : Nat} (h0 : winE s sh m g = 0) (hk : (k : Int) < winI s sh m g) (hj : (j : Int) < mW b s (tQ b s (at_, 0) k)) (hs : stF b s (wQ b s (fnW b s (tQ b s (at_, 0) k)) (q2W b s (tQ b s (at_, 0) k)) j) = true) : getTe b at_ s sh m g = 8 := by
  have h1 : wS b s (fnW b s (tQ b s (at_, 0) k)) (q2W b s (tQ b s (at_, 0) k)) (mW b s (tQ b s (at_, 0) k)).toNat = true := stop_mono (g := fun j => stF b s (wQ b s (fnW b s (tQ b s (at_, 0) k)) (q2W b s (tQ b s (at_, 0) k)) j)) (fun j => rfl) (k := j) (by omega) hs
  have h2 : tS b s (at_, 0) (nT s sh m g) = true := stop_mono (g := fun k => wS b s (fnW b s (tQ b s (at_, 0) k)) (q2W b s (tQ b s (at_, 0) k)) (mW b s (tQ b s (at_, 0) k)).toNat) (fun k => rfl) (k := k) (by unfold nT; omega) h1
  rw [getTe, if_pos h0, h2]
  rfl

theorem tns_get1 (n : Nat) (bs : List Int) (q : Int × Int) (size : Int) (hb : bs.length ≤ 140737488355328) (hp : ∀ y ∈ bs, 0 ≤ y ∧ y ≤ 255) (hn : Bd q) : HCall Try.prog 65 [.int .i64 size, .ptr 3 0 0 1, .ptr 0 0 0 1, .ptr 2 0 0 1] [(0, some ⟨.rows 1 [[.ro (.ints .u8 bs)]], true, 45⟩), (2, some ⟨.rows 1 [[.int .i64 q.1]], true, 3⟩), (3, some ⟨.rows 1 [[.int .i64 q.2]], true, 41⟩)] n (.int .i64 (rN bs q size)) [(2, some ⟨.rows 1 [[.int .i64 (rS bs q size).1]], true, 3⟩), (3, some ⟨.rows 1 [[.int .i64 (rS bs q size).2]], true, 41⟩)] := by
  have hp2 : ∀ k : Nat, 0 ≤ bs[k]?.getD 0 ∧ bs[k]?.getD 0 ≤ 255 := fun k => by
    rcases Nat.lt_or_ge k bs.length with h | h
    · exact of_all hp h
    · rw [List.getElem?_eq_none h]; decide
  refine hcall_body ty_ok Try.func65 rfl (by rfl) (by simp) ?_
  rw [Try.ntmps65]
  refine swp_seq fun K1 hK1 => ?_
  refine swp_region ty_ok ?_
  try simp (maxSteps := 1000000) [runs, gd, step1, need, evu, un, opnds, opv, ev, cst, cst1, cstL, getT, getH, putT, onL, nxt, argT, cellsOf, PV.one, thn, inBlk, jmp, fldP, ldP, ldC, live, Cells.len, Cells.get, Cells.w, sug, ldv, bin, ops2, sh2, binv, Tk.agg, stC, apC, rdS, apS, mvL, zp, argsP, idx, fillP, toInts, chunks, mkC, ixS, ixA, oidx, slP, sl0, mxF, bltn, frzA, frz, frzL, frz1, pur1, Cells.pur, PV.scal, scal1, runD, rdO, PV.ids, id1, zids, ety, Eff.on, cnd, minb, and1b, ifmax, ifmin, mxv, sugI, strv, w0, w1, w2, wm1]
  repeat' (first | apply And.intro | intro _)
  any_goals (first | (refine hK1 _ ?_; clear hK1) | (first | omega | (simp only [IntKind.wrap_i64] at *; omega) | (simp_all; done) | (simp_all; omega)))
  refine swp_seq fun K2 hK2 => ?_
  refine swp_seq fun K3 hK3 => ?_
  refine swp_region ty_ok ?_
  try simp (maxSteps := 1000000) [runs, gd, step1, need, evu, un, opnds, opv, ev, cst, cst1, cstL, getT, getH, putT, onL, nxt, argT, cellsOf, PV.one, thn, inBlk, jmp, fldP, ldP, ldC, live, Cells.len, Cells.get, Cells.w, sug, ldv, bin, ops2, sh2, binv, Tk.agg, stC, apC, rdS, apS, mvL, zp, argsP, idx, fillP, toInts, chunks, mkC, ixS, ixA, oidx, slP, sl0, mxF, bltn, frzA, frz, frzL, frz1, pur1, Cells.pur, PV.scal, scal1, runD, rdO, PV.ids, id1, zids, ety, Eff.on, cnd, minb, and1b, ifmax, ifmin, mxv, sugI, strv, w0, w1, w2, wm1]
  repeat' (first | apply And.intro | intro _)
  any_goals (first | (refine hK3 _ ?_; clear hK3) | (first | omega | (simp only [IntKind.wrap_i64] at *; omega) | (simp_all; done) | (simp_all; omega)))
  refine swp_if fun C4 hC4 => ?_
  try simp (maxSteps := 1000000) [runs, gd, step1, need, evu, un, opnds, opv, ev, cst, cst1, cstL, getT, getH, putT, onL, nxt, argT, cellsOf, PV.one, thn, inBlk, jmp, fldP, ldP, ldC, live, Cells.len, Cells.get, Cells.w, sug, ldv, bin, ops2, sh2, binv, Tk.agg, stC, apC, rdS, apS, mvL, zp, argsP, idx, fillP, toInts, chunks, mkC, ixS, ixA, oidx, slP, sl0, mxF, bltn, frzA, frz, frzL, frz1, pur1, Cells.pur, PV.scal, scal1, runD, rdO, PV.ids, id1, zids, ety, Eff.on, cnd, minb, and1b, ifmax, ifmin, mxv, sugI, strv, w0, w1, w2, wm1]
  refine hC4 _ (fun hc4 => ?_) (fun hc4 => ?_)
  · clear hC4
    try simp at hc4
    refine swp_region ty_ok ?_
    refine runs_cut 3 fun R5 hR5 => ?_
    try simp (maxSteps := 1000000) [runs, gd, step1, need, evu, un, opnds, opv, ev, cst, cst1, cstL, getT, getH, putT, onL, nxt, argT, cellsOf, PV.one, thn, inBlk, jmp, fldP, ldP, ldC, live, Cells.len, Cells.get, Cells.w, sug, ldv, bin, ops2, sh2, binv, Tk.agg, stC, apC, rdS, apS, mvL, zp, argsP, idx, fillP, toInts, chunks, mkC, ixS, ixA, oidx, slP, sl0, mxF, bltn, frzA, frz, frzL, frz1, pur1, Cells.pur, PV.scal, scal1, runD, rdO, PV.ids, id1, zids, ety, Eff.on, cnd, minb, and1b, ifmax, ifmin, mxv, sugI, strv, w0, w1, w2, wm1, List.take_succ_cons, List.take_zero, List.drop_succ_cons, List.drop_zero]
    repeat' (first | apply And.intro | intro _)
    any_goals (first | (refine hR5 _ ?_; clear hR5) | (first | omega | (simp only [IntKind.wrap_i64] at *; omega) | (simp_all; done) | (simp_all; omega)))
    refine runs_cut 1 fun R6 hR6 => ?_
    try simp (maxSteps := 1000000) [runs, gd, step1, need, evu, un, opnds, opv, ev, cst, cst1, cstL, getT, getH, putT, onL, nxt, argT, cellsOf, PV.one, thn, inBlk, jmp, fldP, ldP, ldC, live, Cells.len, Cells.get, Cells.w, sug, ldv, bin, ops2, sh2, binv, Tk.agg, stC, apC, rdS, apS, mvL, zp, argsP, idx, fillP, toInts, chunks, mkC, ixS, ixA, oidx, slP, sl0, mxF, bltn, frzA, frz, frzL, frz1, pur1, Cells.pur, PV.scal, scal1, runD, rdO, PV.ids, id1, zids, ety, Eff.on, cnd, minb, and1b, ifmax, ifmin, mxv, sugI, strv, w0, w1, w2, wm1, List.take_succ_cons, List.take_zero, List.drop_succ_cons, List.drop_zero]
    refine .inl ⟨_, get_ok bs q.1 size hb hp2 hn, ?_⟩
    try simp (maxSteps := 1000000) [runs, gd, step1, need, evu, un, opnds, opv, ev, cst, cst1, cstL, getT, getH, putT, onL, nxt, argT, cellsOf, PV.one, thn, inBlk, jmp, fldP, ldP, ldC, live, Cells.len, Cells.get, Cells.w, sug, ldv, bin, ops2, sh2, binv, Tk.agg, stC, apC, rdS, apS, mvL, zp, argsP, idx, fillP, toInts, chunks, mkC, ixS, ixA, oidx, slP, sl0, mxF, bltn, frzA, frz, frzL, frz1, pur1, Cells.pur, PV.scal, scal1, runD, rdO, PV.ids, id1, zids, ety, Eff.on, cnd, minb, and1b, ifmax, ifmin, mxv, sugI, strv, w0, w1, w2, wm1]
    repeat' (first | apply And.intro | intro _)
    any_goals (first | (refine hR6 _ ?_; clear hR6) | (first | omega | (simp only [IntKind.wrap_i64] at *; omega) | (simp_all; done) | (simp_all; omega)))
    try simp (maxSteps := 1000000) [runs, gd, step1, need, evu, un, opnds, opv, ev, cst, cst1, cstL, getT, getH, putT, onL, nxt, argT, cellsOf, PV.one, thn, inBlk, jmp, fldP, ldP, ldC, live, Cells.len, Cells.get, Cells.w, sug, ldv, bin, ops2, sh2, binv, Tk.agg, stC, apC, rdS, apS, mvL, zp, argsP, idx, fillP, toInts, chunks, mkC, ixS, ixA, oidx, slP, sl0, mxF, bltn, frzA, frz, frzL, frz1, pur1, Cells.pur, PV.scal, scal1, runD, rdO, PV.ids, id1, zids, ety, Eff.on, cnd, minb, and1b, ifmax, ifmin, mxv, sugI, strv, w0, w1, w2, wm1, List.take_succ_cons, List.take_zero, List.drop_succ_cons, List.drop_zero]
    repeat' (first | apply And.intro | intro _)
    any_goals (first | (refine hK2 _ ?_; clear hK2) | (first | omega | (simp only [IntKind.wrap_i64] at *; omega) | (simp_all; done) | (simp_all; omega)))
    refine swp_ret ?_
    simp [runs, gd, step1, need, evu, un, opnds, opv, ev, cst, cst1, cstL, getT, getH, putT, onL, nxt, argT, cellsOf, PV.one, thn, inBlk, jmp, fldP, ldP, ldC, live, Cells.len, Cells.get, Cells.w, sug, ldv, bin, ops2, sh2, binv, Tk.agg, stC, apC, rdS, apS, mvL, zp, argsP, idx, fillP, toInts, chunks, mkC, ixS, ixA, oidx, slP, sl0, mxF, bltn, frzA, frz, frzL, frz1, pur1, Cells.pur, PV.scal, scal1, runD, rdO, PV.ids, id1, zids, ety, Eff.on, cnd, minb, and1b, ifmax, ifmin, mxv, sugI, strv, w0, w1, w2, wm1, fnPostH, PV.inL, inL1, Blk.inL, Cells.inL, put_at, Try.results65, resP, tupOf]
    simp_all [rN, rS, rdN, rdP, rdE]
  · clear hC4
    try simp at hc4
    refine swp_skip ?_
    simp only [thn, inBlk]
    refine hK2 _ ?_; clear hK2
    refine swp_ret ?_
    simp [runs, gd, step1, need, evu, un, opnds, opv, ev, cst, cst1, cstL, getT, getH, putT, onL, nxt, argT, cellsOf, PV.one, thn, inBlk, jmp, fldP, ldP, ldC, live, Cells.len, Cells.get, Cells.w, sug, ldv, bin, ops2, sh2, binv, Tk.agg, stC, apC, rdS, apS, mvL, zp, argsP, idx, fillP, toInts, chunks, mkC, ixS, ixA, oidx, slP, sl0, mxF, bltn, frzA, frz, frzL, frz1, pur1, Cells.pur, PV.scal, scal1, runD, rdO, PV.ids, id1, zids, ety, Eff.on, cnd, minb, and1b, ifmax, ifmin, mxv, sugI, strv, w0, w1, w2, wm1, fnPostH, PV.inL, inL1, Blk.inL, Cells.inL, put_at, Try.results65, resP, tupOf]
    simp_all [rN, rS, rdN, rdP, rdE]

theorem tg_m (bs : List Int) (s : Int) (q : Int × Int) (hb : bs.length ≤ 140737488355328) (hp : ∀ y ∈ bs, 0 ≤ y ∧ y ≤ 255) (hn : Bd q) :
    HCall Try.prog 65 [.int .i64 (sz0 s), .ptr 3 0 0 1, .ptr 0 0 0 1, .ptr 2 0 0 1] [(0, some ⟨.rows 1 [[.ro (.ints .u8 bs)]], true, 45⟩), (2, some ⟨.rows 1 [[.int .i64 q.1]], true, 3⟩), (3, some ⟨.rows 1 [[.int .i64 q.2]], true, 41⟩)] 6 (.int .i64 (mW bs s q)) [(2, some ⟨.rows 1 [[.int .i64 (q1W bs s q).1]], true, 3⟩), (3, some ⟨.rows 1 [[.int .i64 (q1W bs s q).2]], true, 41⟩)] := tns_get1 6 bs q (sz0 s) hb hp hn
theorem tg_1 (bs : List Int) (s : Int) (q : Int × Int) (hb : bs.length ≤ 140737488355328) (hp : ∀ y ∈ bs, 0 ≤ y ∧ y ≤ 255) (hn : Bd q) :
    HCall Try.prog 65 [.int .i64 (sz1 s), .ptr 3 0 0 1, .ptr 0 0 0 1, .ptr 2 0 0 1] [(0, some ⟨.rows 1 [[.ro (.ints .u8 bs)]], true, 45⟩), (2, some ⟨.rows 1 [[.int .i64 q.1]], true, 3⟩), (3, some ⟨.rows 1 [[.int .i64 q.2]], true, 41⟩)] 39 (.int .i64 (rN bs q (sz1 s))) [(2, some ⟨.rows 1 [[.int .i64 (q1F bs s q).1]], true, 3⟩), (3, some ⟨.rows 1 [[.int .i64 (q1F bs s q).2]], true, 41⟩)] := tns_get1 39 bs q (sz1 s) hb hp hn
theorem tg_2 (bs : List Int) (s : Int) (q : Int × Int) (hb : bs.length ≤ 140737488355328) (hp : ∀ y ∈ bs, 0 ≤ y ∧ y ≤ 255) (hn : Bd (q1F bs s q)) :
    HCall Try.prog 65 [.int .i64 (sz2 s), .ptr 3 0 0 1, .ptr 0 0 0 1, .ptr 2 0 0 1] [(0, some ⟨.rows 1 [[.ro (.ints .u8 bs)]], true, 45⟩), (2, some ⟨.rows 1 [[.int .i64 (q1F bs s q).1]], true, 3⟩), (3, some ⟨.rows 1 [[.int .i64 (q1F bs s q).2]], true, 41⟩)] 71 (.int .i64 (oF bs s q)) [(2, some ⟨.rows 1 [[.int .i64 (q2F bs s q).1]], true, 3⟩), (3, some ⟨.rows 1 [[.int .i64 (q2F bs s q).2]], true, 41⟩)] := tns_get1 71 bs (q1F bs s q) (sz2 s) hb hp hn
theorem tg_3 (bs : List Int) (s : Int) (q : Int × Int) (hb : bs.length ≤ 140737488355328) (hp : ∀ y ∈ bs, 0 ≤ y ∧ y ≤ 255) (hn : Bd (q2F bs s q)) :
    HCall Try.prog 65 [.int .i64 1, .ptr 3 0 0 1, .ptr 0 0 0 1, .ptr 2 0 0 1] [(0, some ⟨.rows 1 [[.ro (.ints .u8 bs)]], true, 45⟩), (2, some ⟨.rows 1 [[.int .i64 (q2F bs s q).1]], true, 3⟩), (3, some ⟨.rows 1 [[.int .i64 (q2F bs s q).2]], true, 41⟩)] 103 (.int .i64 (dnF bs s q)) [(2, some ⟨.rows 1 [[.int .i64 (q3F bs s q).1]], true, 3⟩), (3, some ⟨.rows 1 [[.int .i64 (q3F bs s q).2]], true, 41⟩)] := tns_get1 103 bs (q2F bs s q) 1 hb hp hn
theorem tg_4 (bs : List Int) (s : Int) (q : Int × Int) (hb : bs.length ≤ 140737488355328) (hp : ∀ y ∈ bs, 0 ≤ y ∧ y ≤ 255) (hn : Bd (q3F bs s q)) :
    HCall Try.prog 65 [.int .i64 1, .ptr 3 0 0 1, .ptr 0 0 0 1, .ptr 2 0 0 1] [(0, some ⟨.rows 1 [[.ro (.ints .u8 bs)]], true, 45⟩), (2, some ⟨.rows 1 [[.int .i64 (q3F bs s q).1]], true, 3⟩), (3, some ⟨.rows 1 [[.int .i64 (q3F bs s q).2]], true, 41⟩)] 103 (.int .i64 (nrF bs s q)) [(2, some ⟨.rows 1 [[.int .i64 (q4F bs s q).1]], true, 3⟩), (3, some ⟨.rows 1 [[.int .i64 (q4F bs s q).2]], true, 41⟩)] := tns_get1 103 bs (q3F bs s q) 1 hb hp hn
theorem tg_c (bs : List Int) (s : Int) (q : Int × Int) (z : Int) (i : Nat) (hb : bs.length ≤ 140737488355328) (hp : ∀ y ∈ bs, 0 ≤ y ∧ y ≤ 255) (hn : Bd (cfQ bs z q i)) :
    HCall Try.prog 65 [.int .i64 z, .ptr 3 0 0 1, .ptr 0 0 0 1, .ptr 2 0 0 1] [(0, some ⟨.rows 1 [[.ro (.ints .u8 bs)]], true, 45⟩), (2, some ⟨.rows 1 [[.int .i64 (cfQ bs z q i).1]], true, 3⟩), (3, some ⟨.rows 1 [[.int .i64 (cfQ bs z q i).2]], true, 41⟩)] 104 (.int .i64 (rN bs (cfQ bs z q i) z)) [(2, some ⟨.rows 1 [[.int .i64 (cfQ bs z q (i + 1)).1]], true, 3⟩), (3, some ⟨.rows 1 [[.int .i64 (cfQ bs z q (i + 1)).2]], true, 41⟩)] := tns_get1 104 bs (cfQ bs z q i) z hb hp hn

set_option maxHeartbeats 8000000 in
theorem tnsbits_Get_ok (bs : List Int) (at_ s sh m : Int) (g : List Int) (hb : bs.length ≤ 1000000) (hx : g.length ≤ 140737488355328) (hp : ∀ y ∈ bs, 0 ≤ y ∧ y ≤ 255) (hn : -9223372036854775808 ≤ at_ ∧ at_ ≤ 9223372036854775807) : PCall Try.prog 25 [.ro (.ints .u8 bs), .int .i64 at_, .agg [.int .u8 s, .int .u8 sh, .int .i64 m, .ro (.ints .i64 g)]] (.tup [.ro (.rows 1 ((getTl bs at_ s sh m g).map fun w => [.ro (.rows 5 (w.map Fl.row))])), .int .i64 (getTp bs at_ s sh m g), .int .i64 (getTe bs at_ s sh m g)]) := by
  have hb2 : bs.length ≤ 140737488355328 := by omega
  have hp0 : ∀ y ∈ bs, 0 ≤ y := fun y h => (hp y h).1
  refine pcall_body ty_ok Try.func25 rfl (by rfl) (by simp) ?_
  rw [Try.ntmps25]
  refine swp_seq fun K1 hK1 => ?_
  refine swp_region ty_ok ?_
  try simp (maxSteps := 1000000) [runs, gd, step1, need, evu, un, opnds, opv, ev, cst, cst1, cstL, getT, getH, putT, onL, nxt, argT, cellsOf, PV.one, thn, inBlk, jmp, fldP, ldP, ldC, live, Cells.len, Cells.get, Cells.w, sug, ldv, bin, ops2, sh2, binv, Tk.agg, stC, apC, rdS, apS, mvL, zp, argsP, idx, fillP, toInts, chunks, mkC, ixS, ixA, oidx, slP, sl0, mxF, bltn, frzA, frz, frzL, frz1, pur1, Cells.pur, PV.scal, scal1, runD, rdO, PV.ids, id1, zids, ety, Eff.on, cnd, minb, and1b, ifmax, ifmin, mxv, sugI, strv, w0, w1, w2, wm1, szP, tL_len, wL_len, cfV_len, List.length_map]
  repeat' (first | apply And.intro | intro _)
  any_goals (first | (refine hK1 _ ?_; clear hK1) | (first | omega | (simp only [IntKind.wrap_i64] at *; omega) | (simp_all; done) | (simp_all; omega)))
  refine swp_seq fun K2 hK2 => ?_
  refine swp_region ty_ok ?_
  refine runs_cut 1 fun R3 hR3 => ?_
  try simp (maxSteps := 1000000) [runs, gd, step1, need, evu, un, opnds, opv, ev, cst, cst1, cstL, getT, getH, putT, onL, nxt, argT, cellsOf, PV.one, thn, inBlk, jmp, fldP, ldP, ldC, live, Cells.len, Cells.get, Cells.w, sug, ldv, bin, ops2, sh2, binv, Tk.agg, stC, apC, rdS, apS, mvL, zp, argsP, idx, fillP, toInts, chunks, mkC, ixS, ixA, oidx, slP, sl0, mxF, bltn, frzA, frz, frzL, frz1, pur1, Cells.pur, PV.scal, scal1, runD, rdO, PV.ids, id1, zids, ety, Eff.on, cnd, minb, and1b, ifmax, ifmin, mxv, sugI, strv, w0, w1, w2, wm1, szP, tL_len, wL_len, cfV_len, List.length_map, List.take_succ_cons, List.take_zero, List.drop_succ_cons, List.drop_zero]
  repeat' (first | apply And.intro | intro _)
  any_goals (first | (refine hR3 _ ?_; clear hR3) | (first | omega | (simp only [IntKind.wrap_i64] at *; omega) | (simp_all; done) | (simp_all; omega)))
  refine runs_cut 1 fun R4 hR4 => ?_
  try simp (maxSteps := 1000000) [runs, gd, step1, need, evu, un, opnds, opv, ev, cst, cst1, cstL, getT, getH, putT, onL, nxt, argT, cellsOf, PV.one, thn, inBlk, jmp, fldP, ldP, ldC, live, Cells.len, Cells.get, Cells.w, sug, ldv, bin, ops2, sh2, binv, Tk.agg, stC, apC, rdS, apS, mvL, zp, argsP, idx, fillP, toInts, chunks, mkC, ixS, ixA, oidx, slP, sl0, mxF, bltn, frzA, frz, frzL, frz1, pur1, Cells.pur, PV.scal, scal1, runD, rdO, PV.ids, id1, zids, ety, Eff.on, cnd, minb, and1b, ifmax, ifmin, mxv, sugI, strv, w0, w1, w2, wm1, szP, tL_len, wL_len, cfV_len, List.length_map, List.take_succ_cons, List.take_zero, List.drop_succ_cons, List.drop_zero]
  refine .inl ⟨_, info_Windows_ok s sh m g hx, ?_⟩
  try simp (maxSteps := 1000000) [runs, gd, step1, need, evu, un, opnds, opv, ev, cst, cst1, cstL, getT, getH, putT, onL, nxt, argT, cellsOf, PV.one, thn, inBlk, jmp, fldP, ldP, ldC, live, Cells.len, Cells.get, Cells.w, sug, ldv, bin, ops2, sh2, binv, Tk.agg, stC, apC, rdS, apS, mvL, zp, argsP, idx, fillP, toInts, chunks, mkC, ixS, ixA, oidx, slP, sl0, mxF, bltn, frzA, frz, frzL, frz1, pur1, Cells.pur, PV.scal, scal1, runD, rdO, PV.ids, id1, zids, ety, Eff.on, cnd, minb, and1b, ifmax, ifmin, mxv, sugI, strv, w0, w1, w2, wm1, szP, tL_len, wL_len, cfV_len, List.length_map]
  repeat' (first | apply And.intro | intro _)
  any_goals (first | (refine hR4 _ ?_; clear hR4) | (first | omega | (simp only [IntKind.wrap_i64] at *; omega) | (simp_all; done) | (simp_all; omega)))
  try simp (maxSteps := 1000000) [runs, gd, step1, need, evu, un, opnds, opv, ev, cst, cst1, cstL, getT, getH, putT, onL, nxt, argT, cellsOf, PV.one, thn, inBlk, jmp, fldP, ldP, ldC, live, Cells.len, Cells.get, Cells.w, sug, ldv, bin, ops2, sh2, binv, Tk.agg, stC, apC, rdS, apS, mvL, zp, argsP, idx, fillP, toInts, chunks, mkC, ixS, ixA, oidx, slP, sl0, mxF, bltn, frzA, frz, frzL, frz1, pur1, Cells.pur, PV.scal, scal1, runD, rdO, PV.ids, id1, zids, ety, Eff.on, cnd, minb, and1b, ifmax, ifmin, mxv, sugI, strv, w0, w1, w2, wm1, szP, tL_len, wL_len, cfV_len, List.length_map, List.take_succ_cons, List.take_zero, List.drop_succ_cons, List.drop_zero]
  repeat' (first | apply And.intro | intro _)
  any_goals (first | (refine hK2 _ ?_; clear hK2) | (first | omega | (simp only [IntKind.wrap_i64] at *; omega) | (simp_all; done) | (simp_all; omega)))
  refine swp_seq fun K5 hK5 => ?_
  refine swp_seq fun K6 hK6 => ?_
  refine swp_region ty_ok ?_
  try simp (maxSteps := 1000000) [runs, gd, step1, need, evu, un, opnds, opv, ev, cst, cst1, cstL, getT, getH, putT, onL, nxt, argT, cellsOf, PV.one, thn, inBlk, jmp, fldP, ldP, ldC, live, Cells.len, Cells.get, Cells.w, sug, ldv, bin, ops2, sh2, binv, Tk.agg, stC, apC, rdS, apS, mvL, zp, argsP, idx, fillP, toInts, chunks, mkC, ixS, ixA, oidx, slP, sl0, mxF, bltn, frzA, frz, frzL, frz1, pur1, Cells.pur, PV.scal, scal1, runD, rdO, PV.ids, id1, zids, ety, Eff.on, cnd, minb, and1b, ifmax, ifmin, mxv, sugI, strv, w0, w1, w2, wm1, szP, tL_len, wL_len, cfV_len, List.length_map]
  repeat' (first | apply And.intro | intro _)
  any_goals (first | (refine hK6 _ ?_; clear hK6) | (first | omega | (simp only [IntKind.wrap_i64] at *; omega) | (simp_all; done) | (simp_all; omega)))
  refine swp_if fun C7 hC7 => ?_
  try simp (maxSteps := 1000000) [runs, gd, step1, need, evu, un, opnds, opv, ev, cst, cst1, cstL, getT, getH, putT, onL, nxt, argT, cellsOf, PV.one, thn, inBlk, jmp, fldP, ldP, ldC, live, Cells.len, Cells.get, Cells.w, sug, ldv, bin, ops2, sh2, binv, Tk.agg, stC, apC, rdS, apS, mvL, zp, argsP, idx, fillP, toInts, chunks, mkC, ixS, ixA, oidx, slP, sl0, mxF, bltn, frzA, frz, frzL, frz1, pur1, Cells.pur, PV.scal, scal1, runD, rdO, PV.ids, id1, zids, ety, Eff.on, cnd, minb, and1b, ifmax, ifmin, mxv, sugI, strv, w0, w1, w2, wm1, szP, tL_len, wL_len, cfV_len, List.length_map]
  refine hC7 _ (fun hc7 => ?_) (fun hc7 => ?_)
  · clear hC7
    try simp at hc7
    refine swp_seq fun K8 hK8 => ?_
    refine swp_draw ty_ok mixed (ms := [0, 0, 2, 7]) (by kernel_rfl) ?_
    try simp (maxSteps := 1000000) [runs, gd, step1, need, evu, un, opnds, opv, ev, cst, cst1, cstL, getT, getH, putT, onL, nxt, argT, cellsOf, PV.one, thn, inBlk, jmp, fldP, ldP, ldC, live, Cells.len, Cells.get, Cells.w, sug, ldv, bin, ops2, sh2, binv, Tk.agg, stC, apC, rdS, apS, mvL, zp, argsP, idx, fillP, toInts, chunks, mkC, ixS, ixA, oidx, slP, sl0, mxF, bltn, frzA, frz, frzL, frz1, pur1, Cells.pur, PV.scal, scal1, runD, rdO, PV.ids, id1, zids, ety, Eff.on, cnd, minb, and1b, ifmax, ifmin, mxv, sugI, strv, w0, w1, w2, wm1, szP, tL_len, wL_len, cfV_len, List.length_map]
    repeat' (first | apply And.intro | intro _)
    any_goals (first | kernel_rfl | (refine hK8 _ ?_; clear hK8) | (first | omega | (simp only [IntKind.wrap_i64] at *; omega) | (simp_all; done) | (simp_all; omega)))
    refine swp_ret ?_
    simp [runs, gd, step1, need, evu, un, opnds, opv, ev, cst, cst1, cstL, getT, getH, putT, onL, nxt, argT, cellsOf, PV.one, thn, inBlk, jmp, fldP, ldP, ldC, live, Cells.len, Cells.get, Cells.w, sug, ldv, bin, ops2, sh2, binv, Tk.agg, stC, apC, rdS, apS, mvL, zp, argsP, idx, fillP, toInts, chunks, mkC, ixS, ixA, oidx, slP, sl0, mxF, bltn, frzA, frz, frzL, frz1, pur1, Cells.pur, PV.scal, scal1, runD, rdO, PV.ids, id1, zids, ety, Eff.on, cnd, minb, and1b, ifmax, ifmin, mxv, sugI, strv, w0, w1, w2, wm1, fnPost, Try.results25, resP, tupOf]
    exact getT_1 (by rw [getTe, if_neg (by assumption)]) (by assumption)
  · clear hC7
    try simp at hc7
    refine swp_skip ?_
    simp only [thn, inBlk]
    refine hK5 _ ?_; clear hK5
    refine swp_seq fun K10 hK10 => ?_
    have hw0 : winE s sh m g = 0 := by assumption
    have hw3 := (may_pos (winE_yes (by assumption))).2.2
    refine swp_region ty_ok ?_
    try simp (maxSteps := 1000000) [runs, gd, step1, need, evu, un, opnds, opv, ev, cst, cst1, cstL, getT, getH, putT, onL, nxt, argT, cellsOf, PV.one, thn, inBlk, jmp, fldP, ldP, ldC, live, Cells.len, Cells.get, Cells.w, sug, ldv, bin, ops2, sh2, binv, Tk.agg, stC, apC, rdS, apS, mvL, zp, argsP, idx, fillP, toInts, chunks, mkC, ixS, ixA, oidx, slP, sl0, mxF, bltn, frzA, frz, frzL, frz1, pur1, Cells.pur, PV.scal, scal1, runD, rdO, PV.ids, id1, zids, ety, Eff.on, cnd, minb, and1b, ifmax, ifmin, mxv, sugI, strv, w0, w1, w2, wm1, szP, tL_len, wL_len, cfV_len, List.length_map]
    repeat' (first | apply And.intro | intro _)
    any_goals (first | (refine hK10 _ ?_; clear hK10) | (first | omega | (simp only [IntKind.wrap_i64] at *; omega) | (simp_all; done) | (simp_all; omega)))
    refine swp_seq fun K11 hK11 => ?_
    refine swp_region ty_ok ?_
    try simp (maxSteps := 1000000) [runs, gd, step1, need, evu, un, opnds, opv, ev, cst, cst1, cstL, getT, getH, putT, onL, nxt, argT, cellsOf, PV.one, thn, inBlk, jmp, fldP, ldP, ldC, live, Cells.len, Cells.get, Cells.w, sug, ldv, bin, ops2, sh2, binv, Tk.agg, stC, apC, rdS, apS, mvL, zp, argsP, idx, fillP, toInts, chunks, mkC, ixS, ixA, oidx, slP, sl0, mxF, bltn, frzA, frz, frzL, frz1, pur1, Cells.pur, PV.scal, scal1, runD, rdO, PV.ids, id1, zids, ety, Eff.on, cnd, minb, and1b, ifmax, ifmin, mxv, sugI, strv, w0, w1, w2, wm1, szP, tL_len, wL_len, cfV_len, List.length_map]
    repeat' (first | apply And.intro | intro _)
    any_goals (first | (refine hK11 _ ?_; clear hK11) | (first | omega | (simp only [IntKind.wrap_i64] at *; omega) | (simp_all; done) | (simp_all; omega)))
    refine swp_seq fun K12 hK12 => ?_
    refine swp_region ty_ok ?_
    refine runs_cut 1 fun R13 hR13 => ?_
    try simp (maxSteps := 1000000) [runs, gd, step1, need, evu, un, opnds, opv, ev, cst, cst1, cstL, getT, getH, putT, onL, nxt, argT, cellsOf, PV.one, thn, inBlk, jmp, fldP, ldP, ldC, live, Cells.len, Cells.get, Cells.w, sug, ldv, bin, ops2, sh2, binv, Tk.agg, stC, apC, rdS, apS, mvL, zp, argsP, idx, fillP, toInts, chunks, mkC, ixS, ixA, oidx, slP, sl0, mxF, bltn, frzA, frz, frzL, frz1, pur1, Cells.pur, PV.scal, scal1, runD, rdO, PV.ids, id1, zids, ety, Eff.on, cnd, minb, and1b, ifmax, ifmin, mxv, sugI, strv, w0, w1, w2, wm1, szP, tL_len, wL_len, cfV_len, List.length_map, List.take_succ_cons, List.take_zero, List.drop_succ_cons, List.drop_zero]
    repeat' (first | apply And.intro | intro _)
    any_goals (first | (refine hR13 _ ?_; clear hR13) | (first | omega | (simp only [IntKind.wrap_i64] at *; omega) | (simp_all; done) | (simp_all; omega)))
    refine runs_cut 1 fun R14 hR14 => ?_
    try simp (maxSteps := 1000000) [runs, gd, step1, need, evu, un, opnds, opv, ev, cst, cst1, cstL, getT, getH, putT, onL, nxt, argT, cellsOf, PV.one, thn, inBlk, jmp, fldP, ldP, ldC, live, Cells.len, Cells.get, Cells.w, sug, ldv, bin, ops2, sh2, binv, Tk.agg, stC, apC, rdS, apS, mvL, zp, argsP, idx, fillP, toInts, chunks, mkC, ixS, ixA, oidx, slP, sl0, mxF, bltn, frzA, frz, frzL, frz1, pur1, Cells.pur, PV.scal, scal1, runD, rdO, PV.ids, id1, zids, ety, Eff.on, cnd, minb, and1b, ifmax, ifmin, mxv, sugI, strv, w0, w1, w2, wm1, szP, tL_len, wL_len, cfV_len, List.length_map, List.take_succ_cons, List.take_zero, List.drop_succ_cons, List.drop_zero]
    refine .inl ⟨_, tnsbits_sizes_ok s sh m g, ?_⟩
    try simp (maxSteps := 1000000) [runs, gd, step1, need, evu, un, opnds, opv, ev, cst, cst1, cstL, getT, getH, putT, onL, nxt, argT, cellsOf, PV.one, thn, inBlk, jmp, fldP, ldP, ldC, live, Cells.len, Cells.get, Cells.w, sug, ldv, bin, ops2, sh2, binv, Tk.agg, stC, apC, rdS, apS, mvL, zp, argsP, idx, fillP, toInts, chunks, mkC, ixS, ixA, oidx, slP, sl0, mxF, bltn, frzA, frz, frzL, frz1, pur1, Cells.pur, PV.scal, scal1, runD, rdO, PV.ids, id1, zids, ety, Eff.on, cnd, minb, and1b, ifmax, ifmin, mxv, sugI, strv, w0, w1, w2, wm1, szP, tL_len, wL_len, cfV_len, List.length_map]
    repeat' (first | apply And.intro | intro _)
    any_goals (first | (refine hR14 _ ?_; clear hR14) | (first | omega | (simp only [IntKind.wrap_i64] at *; omega) | (simp_all; done) | (simp_all; omega)))
    try simp (maxSteps := 1000000) [runs, gd, step1, need, evu, un, opnds, opv, ev, cst, cst1, cstL, getT, getH, putT, onL, nxt, argT, cellsOf, PV.one, thn, inBlk, jmp, fldP, ldP, ldC, live, Cells.len, Cells.get, Cells.w, sug, ldv, bin, ops2, sh2, binv, Tk.agg, stC, apC, rdS, apS, mvL, zp, argsP, idx, fillP, toInts, chunks, mkC, ixS, ixA, oidx, slP, sl0, mxF, bltn, frzA, frz, frzL, frz1, pur1, Cells.pur, PV.scal, scal1, runD, rdO, PV.ids, id1, zids, ety, Eff.on, cnd, minb, and1b, ifmax, ifmin, mxv, sugI, strv, w0, w1, w2, wm1, szP, tL_len, wL_len, cfV_len, List.length_map, List.take_succ_cons, List.take_zero, List.drop_succ_cons, List.drop_zero]
    repeat' (first | apply And.intro | intro _)
    any_goals (first | (refine hK12 _ ?_; clear hK12) | (first | omega | (simp only [IntKind.wrap_i64] at *; omega) | (simp_all; done) | (simp_all; omega)))
    refine swp_seq fun K15 hK15 => ?_
    refine swp_region ty_ok ?_
    try simp (maxSteps := 1000000) [runs, gd, step1, need, evu, un, opnds, opv, ev, cst, cst1, cstL, getT, getH, putT, onL, nxt, argT, cellsOf, PV.one, thn, inBlk, jmp, fldP, ldP, ldC, live, Cells.len, Cells.get, Cells.w, sug, ldv, bin, ops2, sh2, binv, Tk.agg, stC, apC, rdS, apS, mvL, zp, argsP, idx, fillP, toInts, chunks, mkC, ixS, ixA, oidx, slP, sl0, mxF, bltn, frzA, frz, frzL, frz1, pur1, Cells.pur, PV.scal, scal1, runD, rdO, PV.ids, id1, zids, ety, Eff.on, cnd, minb, and1b, ifmax, ifmin, mxv, sugI, strv, w0, w1, w2, wm1, szP, tL_len, wL_len, cfV_len, List.length_map]
    repeat' (first | apply And.intro | intro _)
    any_goals (first | (refine hK15 _ ?_; clear hK15) | (first | omega | (simp only [IntKind.wrap_i64] at *; omega) | (simp_all; done) | (simp_all; omega)))
    refine swp_seq fun K16 hK16 => ?_
    refine swp_seq fun K17 hK17 => ?_
    refine swp_region ty_ok ?_
    try simp (maxSteps := 1000000) [runs, gd, step1, need, evu, un, opnds, opv, ev, cst, cst1, cstL, getT, getH, putT, onL, nxt, argT, cellsOf, PV.one, thn, inBlk, jmp, fldP, ldP, ldC, live, Cells.len, Cells.get, Cells.w, sug, ldv, bin, ops2, sh2, binv, Tk.agg, stC, apC, rdS, apS, mvL, zp, argsP, idx, fillP, toInts, chunks, mkC, ixS, ixA, oidx, slP, sl0, mxF, bltn, frzA, frz, frzL, frz1, pur1, Cells.pur, PV.scal, scal1, runD, rdO, PV.ids, id1, zids, ety, Eff.on, cnd, minb, and1b, ifmax, ifmin, mxv, sugI, strv, w0, w1, w2, wm1, szP, tL_len, wL_len, cfV_len, List.length_map]
    repeat' (first | apply And.intro | intro _)
    any_goals (first | (refine hK17 _ ?_; clear hK17) | (first | omega | (simp only [IntKind.wrap_i64] at *; omega) | (simp_all; done) | (simp_all; omega)))
    refine swp_block ?_
    refine swp_own 6 33 (by simp [getT]; rfl) rfl ?_
    refine swp_loop 6 (fun m_ s_ => ∃ (k : Nat), ((k : Int) ≤ winI s sh m g) ∧ (tS bs s (at_, 0) k = false) ∧ s_ = ⟨[(7, .ptr 2 0 0 1), (8, .ptr 3 0 0 1), (10, .fn 65 [.ptr 3 0 0 1, .ptr 0 0 0 1, .ptr 2 0 0 1]), (11, .ptr 4 0 0 1), (32, .int .i64 (winI s sh m g)), (33, .int .i64 (k : Nat)), (6, .sl 5 0 k k), (12, .bool (tO bs s (at_, 0) k))], [(0, some ⟨.rows 1 [[.ro (.ints .u8 bs)]], true, 45⟩), (1, some ⟨.rows 4 [[.int .u8 s, .int .u8 sh, .int .i64 m, .ro (.ints .i64 g)]], true, 24⟩), (2, some ⟨.rows 1 [[.int .i64 (tQ bs s (at_, 0) k).1]], true, 3⟩), (3, some ⟨.rows 1 [[.int .i64 (tQ bs s (at_, 0) k).2]], true, 41⟩), (4, some ⟨.rows 5 [[.int .i64 (sz0 s), .int .i64 (sz1 s), .int .i64 (sz2 s), .int .i64 (sz3 s), .int .i64 (sz4 s)]], true, 86⟩), (5, some ⟨.rows 1 ((tL bs s (at_, 0) k).map fun w => [.ro (.rows 5 (w.map Fl.row))]), false, 33⟩)], 6⟩ ∧ m_ = (winI s sh m g).toNat - k) _ ⟨[(7, .ptr 2 0 0 1), (8, .ptr 3 0 0 1), (10, .fn 65 [.ptr 3 0 0 1, .ptr 0 0 0 1, .ptr 2 0 0 1]), (11, .ptr 4 0 0 1), (32, .int .i64 (winI s sh m g)), (33, .int .i64 (0 : Nat)), (6, .sl 5 0 0 0), (12, .bool (tO bs s (at_, 0) 0))], [(0, some ⟨.rows 1 [[.ro (.ints .u8 bs)]], true, 45⟩), (1, some ⟨.rows 4 [[.int .u8 s, .int .u8 sh, .int .i64 m, .ro (.ints .i64 g)]], true, 24⟩), (2, some ⟨.rows 1 [[.int .i64 (tQ bs s (at_, 0) 0).1]], true, 3⟩), (3, some ⟨.rows 1 [[.int .i64 (tQ bs s (at_, 0) 0).2]], true, 41⟩), (4, some ⟨.rows 5 [[.int .i64 (sz0 s), .int .i64 (sz1 s), .int .i64 (sz2 s), .int .i64 (sz3 s), .int .i64 (sz4 s)]], true, 86⟩), (5, some ⟨.rows 1 ((tL bs s (at_, 0) 0).map fun w => [.ro (.rows 5 (w.map Fl.row))]), false, 33⟩)], 6⟩ ⟨by simp [getT, PV.lo, lo1, tO, tL], by simp [getH, Blk.lo, Cells.lo, lo1, tQ, tL, hw0], rfl, by omega⟩ ⟨(0), by omega, by rfl, rfl, rfl⟩ ?_
    rintro m_ s_ ⟨k, hL18_0, hL18_1, rfl, rfl⟩ KL18 hL18
    have hkw : IntKind.i64.wrap ((k : Int) + 1) = (((k + 1 : Nat)) : Int) := wnext (by omega)
    have hqk := tQ_bd hb2 (show Bd (at_, 0) from hn) s k
    refine swp_seq fun K19 hK19 => ?_
    refine swp_region ty_ok ?_
    try simp (maxSteps := 1000000) [runs, gd, step1, need, evu, un, opnds, opv, ev, cst, cst1, cstL, getT, getH, putT, onL, nxt, argT, cellsOf, PV.one, thn, inBlk, jmp, fldP, ldP, ldC, live, Cells.len, Cells.get, Cells.w, sug, ldv, bin, ops2, sh2, binv, Tk.agg, stC, apC, rdS, apS, mvL, zp, argsP, idx, fillP, toInts, chunks, mkC, ixS, ixA, oidx, slP, sl0, mxF, bltn, frzA, frz, frzL, frz1, pur1, Cells.pur, PV.scal, scal1, runD, rdO, PV.ids, id1, zids, ety, Eff.on, cnd, minb, and1b, ifmax, ifmin, mxv, sugI, strv, w0, w1, w2, wm1, szP, tL_len, wL_len, cfV_len, List.length_map]
    repeat' (first | apply And.intro | intro _)
    any_goals (first | (refine hK19 _ ?_; clear hK19) | (first | omega | (simp only [IntKind.wrap_i64] at *; omega) | (simp_all; done) | (simp_all; omega)))
    refine swp_seq fun K20 hK20 => ?_
    refine swp_if fun C21 hC21 => ?_
    try simp (maxSteps := 1000000) [runs, gd, step1, need, evu, un, opnds, opv, ev, cst, cst1, cstL, getT, getH, putT, onL, nxt, argT, cellsOf, PV.one, thn, inBlk, jmp, fldP, ldP, ldC, live, Cells.len, Cells.get, Cells.w, sug, ldv, bin, ops2, sh2, binv, Tk.agg, stC, apC, rdS, apS, mvL, zp, argsP, idx, fillP, toInts, chunks, mkC, ixS, ixA, oidx, slP, sl0, mxF, bltn, frzA, frz, frzL, frz1, pur1, Cells.pur, PV.scal, scal1, runD, rdO, PV.ids, id1, zids, ety, Eff.on, cnd, minb, and1b, ifmax, ifmin, mxv, sugI, strv, w0, w1, w2, wm1, szP, tL_len, wL_len, cfV_len, List.length_map]
    refine hC21 _ (fun hc21 => ?_) (fun hc21 => ?_)
    · clear hC21
      try simp at hc21
      refine swp_skip ?_
      simp only [thn, inBlk]
      refine hK20 _ ?_; clear hK20
      refine swp_seq fun K22 hK22 => ?_
      refine swp_block ?_
      refine swp_seq fun K23 hK23 => ?_
      refine swp_region ty_ok ?_
      try simp (maxSteps := 1000000) [runs, gd, step1, need, evu, un, opnds, opv, ev, cst, cst1, cstL, getT, getH, putT, onL, nxt, argT, cellsOf, PV.one, thn, inBlk, jmp, fldP, ldP, ldC, live, Cells.len, Cells.get, Cells.w, sug, ldv, bin, ops2, sh2, binv, Tk.agg, stC, apC, rdS, apS, mvL, zp, argsP, idx, fillP, toInts, chunks, mkC, ixS, ixA, oidx, slP, sl0, mxF, bltn, frzA, frz, frzL, frz1, pur1, Cells.pur, PV.scal, scal1, runD, rdO, PV.ids, id1, zids, ety, Eff.on, cnd, minb, and1b, ifmax, ifmin, mxv, sugI, strv, w0, w1, w2, wm1, szP, tL_len, wL_len, cfV_len, List.length_map]
      repeat' (first | apply And.intro | intro _)
      any_goals (first | (refine hK23 _ ?_; clear hK23) | (first | omega | (simp only [IntKind.wrap_i64] at *; omega) | (simp_all; done) | (simp_all; omega)))
      refine swp_seq fun K24 hK24 => ?_
      obtain ⟨hz1, hz2⟩ := z2 (s := s) hp0 (tQ bs s (at_, 0) k)
      obtain ⟨hq1, hq2⟩ := q2W_bd hb2 hqk s
      refine swp_region ty_ok ?_
      refine runs_cut 3 fun R25 hR25 => ?_
      try simp (maxSteps := 1000000) [runs, gd, step1, need, evu, un, opnds, opv, ev, cst, cst1, cstL, getT, getH, putT, onL, nxt, argT, cellsOf, PV.one, thn, inBlk, jmp, fldP, ldP, ldC, live, Cells.len, Cells.get, Cells.w, sug, ldv, bin, ops2, sh2, binv, Tk.agg, stC, apC, rdS, apS, mvL, zp, argsP, idx, fillP, toInts, chunks, mkC, ixS, ixA, oidx, slP, sl0, mxF, bltn, frzA, frz, frzL, frz1, pur1, Cells.pur, PV.scal, scal1, runD, rdO, PV.ids, id1, zids, ety, Eff.on, cnd, minb, and1b, ifmax, ifmin, mxv, sugI, strv, w0, w1, w2, wm1, szP, tL_len, wL_len, cfV_len, List.length_map, List.take_succ_cons, List.take_zero, List.drop_succ_cons, List.drop_zero]
      repeat' (first | apply And.intro | intro _)
      any_goals (first | (refine hR25 _ ?_; clear hR25) | (first | omega | (simp only [IntKind.wrap_i64] at *; omega) | (simp_all; done) | (simp_all; omega)))
      refine runs_cut 1 fun R26 hR26 => ?_
      try simp (maxSteps := 1000000) [runs, gd, step1, need, evu, un, opnds, opv, ev, cst, cst1, cstL, getT, getH, putT, onL, nxt, argT, cellsOf, PV.one, thn, inBlk, jmp, fldP, ldP, ldC, live, Cells.len, Cells.get, Cells.w, sug, ldv, bin, ops2, sh2, binv, Tk.agg, stC, apC, rdS, apS, mvL, zp, argsP, idx, fillP, toInts, chunks, mkC, ixS, ixA, oidx, slP, sl0, mxF, bltn, frzA, frz, frzL, frz1, pur1, Cells.pur, PV.scal, scal1, runD, rdO, PV.ids, id1, zids, ety, Eff.on, cnd, minb, and1b, ifmax, ifmin, mxv, sugI, strv, w0, w1, w2, wm1, szP, tL_len, wL_len, cfV_len, List.length_map, List.take_succ_cons, List.take_zero, List.drop_succ_cons, List.drop_zero]
      refine .inr (hcl_mk (tg_m bs s (tQ bs s (at_, 0) k) hb2 hp hqk) (by simp [PV.ids, id1, getH, Blk.inL, Cells.inL, inL1]) (by simp [PV.inL, inL1]) (by simp) ?_)
      try simp (maxSteps := 1000000) [runs, gd, step1, need, evu, un, opnds, opv, ev, cst, cst1, cstL, getT, getH, putT, onL, nxt, argT, cellsOf, PV.one, thn, inBlk, jmp, fldP, ldP, ldC, live, Cells.len, Cells.get, Cells.w, sug, ldv, bin, ops2, sh2, binv, Tk.agg, stC, apC, rdS, apS, mvL, zp, argsP, idx, fillP, toInts, chunks, mkC, ixS, ixA, oidx, slP, sl0, mxF, bltn, frzA, frz, frzL, frz1, pur1, Cells.pur, PV.scal, scal1, runD, rdO, PV.ids, id1, zids, ety, Eff.on, cnd, minb, and1b, ifmax, ifmin, mxv, sugI, strv, w0, w1, w2, wm1, szP, tL_len, wL_len, cfV_len, List.length_map]
      repeat' (first | apply And.intro | intro _)
      any_goals (first | (refine hR26 _ ?_; clear hR26) | (first | omega | (simp only [IntKind.wrap_i64] at *; omega) | (simp_all; done) | (simp_all; omega)))
      try simp (maxSteps := 1000000) [runs, gd, step1, need, evu, un, opnds, opv, ev, cst, cst1, cstL, getT, getH, putT, onL, nxt, argT, cellsOf, PV.one, thn, inBlk, jmp, fldP, ldP, ldC, live, Cells.len, Cells.get, Cells.w, sug, ldv, bin, ops2, sh2, binv, Tk.agg, stC, apC, rdS, apS, mvL, zp, argsP, idx, fillP, toInts, chunks, mkC, ixS, ixA, oidx, slP, sl0, mxF, bltn, frzA, frz, frzL, frz1, pur1, Cells.pur, PV.scal, scal1, runD, rdO, PV.ids, id1, zids, ety, Eff.on, cnd, minb, and1b, ifmax, ifmin, mxv, sugI, strv, w0, w1, w2, wm1, szP, tL_len, wL_len, cfV_len, List.length_map, List.take_succ_cons, List.take_zero, List.drop_succ_cons, List.drop_zero]
      repeat' (first | apply And.intro | intro _)
      any_goals (first | (refine hK24 _ ?_; clear hK24) | (first | omega | (simp only [IntKind.wrap_i64] at *; omega) | (simp_all; done) | (simp_all; omega)))
      refine swp_seq fun K27 hK27 => ?_
      have hfn : (decide (0 < mW bs s (tQ bs s (at_, 0) k)) && decide (rN bs (q1W bs s (tQ bs s (at_, 0) k)) 1 = 1)) = (fnW bs s (tQ bs s (at_, 0) k)) := rfl
      refine swp_region ty_ok ?_
      refine runs_cut 4 fun R28 hR28 => ?_
      try simp (maxSteps := 1000000) [runs, gd, step1, need, evu, un, opnds, opv, ev, cst, cst1, cstL, getT, getH, putT, onL, nxt, argT, cellsOf, PV.one, thn, inBlk, jmp, fldP, ldP, ldC, live, Cells.len, Cells.get, Cells.w, sug, ldv, bin, ops2, sh2, binv, Tk.agg, stC, apC, rdS, apS, mvL, zp, argsP, idx, fillP, toInts, chunks, mkC, ixS, ixA, oidx, slP, sl0, mxF, bltn, frzA, frz, frzL, frz1, pur1, Cells.pur, PV.scal, scal1, runD, rdO, PV.ids, id1, zids, ety, Eff.on, cnd, minb, and1b, ifmax, ifmin, mxv, sugI, strv, w0, w1, w2, wm1, szP, tL_len, wL_len, cfV_len, List.length_map, hfn, List.take_succ_cons, List.take_zero, List.drop_succ_cons, List.drop_zero]
      repeat' (first | apply And.intro | intro _)
      any_goals (first | (refine hR28 _ ?_; clear hR28) | (first | omega | (simp only [IntKind.wrap_i64] at *; omega) | (simp_all; done) | (simp_all; omega)))
      refine runs_cut 1 fun R29 hR29 => ?_
      try simp (maxSteps := 1000000) [runs, gd, step1, need, evu, un, opnds, opv, ev, cst, cst1, cstL, getT, getH, putT, onL, nxt, argT, cellsOf, PV.one, thn, inBlk, jmp, fldP, ldP, ldC, live, Cells.len, Cells.get, Cells.w, sug, ldv, bin, ops2, sh2, binv, Tk.agg, stC, apC, rdS, apS, mvL, zp, argsP, idx, fillP, toInts, chunks, mkC, ixS, ixA, oidx, slP, sl0, mxF, bltn, frzA, frz, frzL, frz1, pur1, Cells.pur, PV.scal, scal1, runD, rdO, PV.ids, id1, zids, ety, Eff.on, cnd, minb, and1b, ifmax, ifmin, mxv, sugI, strv, w0, w1, w2, wm1, szP, tL_len, wL_len, cfV_len, List.length_map, hfn, List.take_succ_cons, List.take_zero, List.drop_succ_cons, List.drop_zero]
      refine .inr ⟨.int .i64 (rN bs (q1W bs s (tQ bs s (at_, 0) k)) 1), [(2, some ⟨.rows 1 [[.int .i64 (q2W bs s (tQ bs s (at_, 0) k)).1]], true, 3⟩), (3, some ⟨.rows 1 [[.int .i64 (q2W bs s (tQ bs s (at_, 0) k)).2]], true, 41⟩)], fun hb => .inr (hcl_mk (tns_get1 6 bs (q1W bs s (tQ bs s (at_, 0) k)) 1 hb2 hp hq1) (by simp [PV.ids, id1, getH, Blk.inL, Cells.inL, inL1]) (by simp [PV.inL, inL1]) (by simp) ⟨(by first | rfl | (rw [q2W, if_pos hb]) | simp [hb, q2W]), (by first | rfl | (rw [q2W, if_pos hb]) | simp [hb, q2W])⟩), fun hb => (by intro a b hp; simp only [List.mem_cons, List.not_mem_nil, or_false, Prod.mk.injEq] at hp; rcases hp with ⟨rfl, rfl⟩ | ⟨rfl, rfl⟩ <;> (simp [getH, q2W]; rw [if_neg (by omega)])), ?_⟩
      try simp (maxSteps := 1000000) [runs, gd, step1, need, evu, un, opnds, opv, ev, cst, cst1, cstL, getT, getH, putT, onL, nxt, argT, cellsOf, PV.one, thn, inBlk, jmp, fldP, ldP, ldC, live, Cells.len, Cells.get, Cells.w, sug, ldv, bin, ops2, sh2, binv, Tk.agg, stC, apC, rdS, apS, mvL, zp, argsP, idx, fillP, toInts, chunks, mkC, ixS, ixA, oidx, slP, sl0, mxF, bltn, frzA, frz, frzL, frz1, pur1, Cells.pur, PV.scal, scal1, runD, rdO, PV.ids, id1, zids, ety, Eff.on, cnd, minb, and1b, ifmax, ifmin, mxv, sugI, strv, w0, w1, w2, wm1, szP, tL_len, wL_len, cfV_len, List.length_map, hfn]
      repeat' (first | apply And.intro | intro _)
      any_goals (first | (refine hR29 _ ?_; clear hR29) | (first | omega | (simp only [IntKind.wrap_i64] at *; omega) | (simp_all; done) | (simp_all; omega)))
      try simp (maxSteps := 1000000) [runs, gd, step1, need, evu, un, opnds, opv, ev, cst, cst1, cstL, getT, getH, putT, onL, nxt, argT, cellsOf, PV.one, thn, inBlk, jmp, fldP, ldP, ldC, live, Cells.len, Cells.get, Cells.w, sug, ldv, bin, ops2, sh2, binv, Tk.agg, stC, apC, rdS, apS, mvL, zp, argsP, idx, fillP, toInts, chunks, mkC, ixS, ixA, oidx, slP, sl0, mxF, bltn, frzA, frz, frzL, frz1, pur1, Cells.pur, PV.scal, scal1, runD, rdO, PV.ids, id1, zids, ety, Eff.on, cnd, minb, and1b, ifmax, ifmin, mxv, sugI, strv, w0, w1, w2, wm1, szP, tL_len, wL_len, cfV_len, List.length_map, hfn, List.take_succ_cons, List.take_zero, List.drop_succ_cons, List.drop_zero]
      repeat' (first | apply And.intro | intro _)
      any_goals (first | (refine hK27 _ ?_; clear hK27) | (first | omega | (simp only [IntKind.wrap_i64] at *; omega) | (simp_all; done) | (simp_all; omega)))
      refine swp_seq fun K30 hK30 => ?_
      refine swp_seq fun K31 hK31 => ?_
      refine swp_region ty_ok ?_
      try simp (maxSteps := 1000000) [runs, gd, step1, need, evu, un, opnds, opv, ev, cst, cst1, cstL, getT, getH, putT, onL, nxt, argT, cellsOf, PV.one, thn, inBlk, jmp, fldP, ldP, ldC, live, Cells.len, Cells.get, Cells.w, sug, ldv, bin, ops2, sh2, binv, Tk.agg, stC, apC, rdS, apS, mvL, zp, argsP, idx, fillP, toInts, chunks, mkC, ixS, ixA, oidx, slP, sl0, mxF, bltn, frzA, frz, frzL, frz1, pur1, Cells.pur, PV.scal, scal1, runD, rdO, PV.ids, id1, zids, ety, Eff.on, cnd, minb, and1b, ifmax, ifmin, mxv, sugI, strv, w0, w1, w2, wm1, szP, tL_len, wL_len, cfV_len, List.length_map]
      repeat' (first | apply And.intro | intro _)
      any_goals (first | (refine hK31 _ ?_; clear hK31) | (first | omega | (simp only [IntKind.wrap_i64] at *; omega) | (simp_all; done) | (simp_all; omega)))
      refine swp_block ?_
      refine swp_own 13 35 (by simp [getT]; rfl) rfl ?_
      refine swp_loop 7 (fun m_ s_ => ∃ (j : Nat), ((j : Int) ≤ mW bs s (tQ bs s (at_, 0) k)) ∧ (wS bs s (fnW bs s (tQ bs s (at_, 0) k)) (q2W bs s (tQ bs s (at_, 0) k)) j = false) ∧ s_ = ⟨[(7, .ptr 2 0 0 1), (8, .ptr 3 0 0 1), (10, .fn 65 [.ptr 3 0 0 1, .ptr 0 0 0 1, .ptr 2 0 0 1]), (11, .ptr 4 0 0 1), (32, .int .i64 (winI s sh m g)), (33, .int .i64 (k : Nat)), (6, .sl 5 0 k k), (12, .bool (tO bs s (at_, 0) k || wO bs s (fnW bs s (tQ bs s (at_, 0) k)) (q2W bs s (tQ bs s (at_, 0) k)) j)), (13, .sl 6 0 j j), (15, .bool (fnW bs s (tQ bs s (at_, 0) k))), (46, .int .i64 (mW bs s (tQ bs s (at_, 0) k))), (47, .int .i64 (j : Nat))], [(0, some ⟨.rows 1 [[.ro (.ints .u8 bs)]], true, 45⟩), (1, some ⟨.rows 4 [[.int .u8 s, .int .u8 sh, .int .i64 m, .ro (.ints .i64 g)]], true, 24⟩), (2, some ⟨.rows 1 [[.int .i64 (wQ bs s (fnW bs s (tQ bs s (at_, 0) k)) (q2W bs s (tQ bs s (at_, 0) k)) j).1]], true, 3⟩), (3, some ⟨.rows 1 [[.int .i64 (wQ bs s (fnW bs s (tQ bs s (at_, 0) k)) (q2W bs s (tQ bs s (at_, 0) k)) j).2]], true, 41⟩), (4, some ⟨.rows 5 [[.int .i64 (sz0 s), .int .i64 (sz1 s), .int .i64 (sz2 s), .int .i64 (sz3 s), .int .i64 (sz4 s)]], true, 86⟩), (5, some ⟨.rows 1 ((tL bs s (at_, 0) k).map fun w => [.ro (.rows 5 (w.map Fl.row))]), false, 33⟩), (6, some ⟨.rows 5 ((wL bs s (fnW bs s (tQ bs s (at_, 0) k)) (q2W bs s (tQ bs s (at_, 0) k)) j).map Fl.row), false, 35⟩)], 7⟩ ∧ m_ = (mW bs s (tQ bs s (at_, 0) k)).toNat - j) _ ⟨[(7, .ptr 2 0 0 1), (8, .ptr 3 0 0 1), (10, .fn 65 [.ptr 3 0 0 1, .ptr 0 0 0 1, .ptr 2 0 0 1]), (11, .ptr 4 0 0 1), (32, .int .i64 (winI s sh m g)), (33, .int .i64 (k : Nat)), (6, .sl 5 0 k k), (12, .bool (tO bs s (at_, 0) k || wO bs s (fnW bs s (tQ bs s (at_, 0) k)) (q2W bs s (tQ bs s (at_, 0) k)) 0)), (13, .sl 6 0 0 0), (15, .bool (fnW bs s (tQ bs s (at_, 0) k))), (46, .int .i64 (mW bs s (tQ bs s (at_, 0) k))), (47, .int .i64 (0 : Nat))], [(0, some ⟨.rows 1 [[.ro (.ints .u8 bs)]], true, 45⟩), (1, some ⟨.rows 4 [[.int .u8 s, .int .u8 sh, .int .i64 m, .ro (.ints .i64 g)]], true, 24⟩), (2, some ⟨.rows 1 [[.int .i64 (wQ bs s (fnW bs s (tQ bs s (at_, 0) k)) (q2W bs s (tQ bs s (at_, 0) k)) 0).1]], true, 3⟩), (3, some ⟨.rows 1 [[.int .i64 (wQ bs s (fnW bs s (tQ bs s (at_, 0) k)) (q2W bs s (tQ bs s (at_, 0) k)) 0).2]], true, 41⟩), (4, some ⟨.rows 5 [[.int .i64 (sz0 s), .int .i64 (sz1 s), .int .i64 (sz2 s), .int .i64 (sz3 s), .int .i64 (sz4 s)]], true, 86⟩), (5, some ⟨.rows 1 ((tL bs s (at_, 0) k).map fun w => [.ro (.rows 5 (w.map Fl.row))]), false, 33⟩), (6, some ⟨.rows 5 ((wL bs s (fnW bs s (tQ bs s (at_, 0) k)) (q2W bs s (tQ bs s (at_, 0) k)) 0).map Fl.row), false, 35⟩)], 7⟩ ⟨by simp [getT, PV.lo, lo1, wO, wL], by simp [getH, Blk.lo, Cells.lo, lo1, wQ, wL], rfl, by omega⟩ ⟨(0), by omega, by rfl, rfl, rfl⟩ ?_
      rintro m_ s_ ⟨j, hL32_0, hL32_1, rfl, rfl⟩ KL32 hL32
      have hjw : IntKind.i64.wrap ((j : Int) + 1) = (((j + 1 : Nat)) : Int) := wnext (by omega)
      have hqj := wQ_bd hb2 hq2 s (fnW bs s (tQ bs s (at_, 0) k)) j
      refine swp_seq fun K33 hK33 => ?_
      refine swp_region ty_ok ?_
      try simp (maxSteps := 1000000) [runs, gd, step1, need, evu, un, opnds, opv, ev, cst, cst1, cstL, getT, getH, putT, onL, nxt, argT, cellsOf, PV.one, thn, inBlk, jmp, fldP, ldP, ldC, live, Cells.len, Cells.get, Cells.w, sug, ldv, bin, ops2, sh2, binv, Tk.agg, stC, apC, rdS, apS, mvL, zp, argsP, idx, fillP, toInts, chunks, mkC, ixS, ixA, oidx, slP, sl0, mxF, bltn, frzA, frz, frzL, frz1, pur1, Cells.pur, PV.scal, scal1, runD, rdO, PV.ids, id1, zids, ety, Eff.on, cnd, minb, and1b, ifmax, ifmin, mxv, sugI, strv, w0, w1, w2, wm1, szP, tL_len, wL_len, cfV_len, List.length_map]
      repeat' (first | apply And.intro | intro _)
      any_goals (first | (refine hK33 _ ?_; clear hK33) | (first | omega | (simp only [IntKind.wrap_i64] at *; omega) | (simp_all; done) | (simp_all; omega)))
      refine swp_seq fun K34 hK34 => ?_
      refine swp_if fun C35 hC35 => ?_
      try simp (maxSteps := 1000000) [runs, gd, step1, need, evu, un, opnds, opv, ev, cst, cst1, cstL, getT, getH, putT, onL, nxt, argT, cellsOf, PV.one, thn, inBlk, jmp, fldP, ldP, ldC, live, Cells.len, Cells.get, Cells.w, sug, ldv, bin, ops2, sh2, binv, Tk.agg, stC, apC, rdS, apS, mvL, zp, argsP, idx, fillP, toInts, chunks, mkC, ixS, ixA, oidx, slP, sl0, mxF, bltn, frzA, frz, frzL, frz1, pur1, Cells.pur, PV.scal, scal1, runD, rdO, PV.ids, id1, zids, ety, Eff.on, cnd, minb, and1b, ifmax, ifmin, mxv, sugI, strv, w0, w1, w2, wm1, szP, tL_len, wL_len, cfV_len, List.length_map]
      refine hC35 _ (fun hc35 => ?_) (fun hc35 => ?_)
      · clear hC35
        try simp at hc35
        refine swp_skip ?_
        simp only [thn, inBlk]
        refine hK34 _ ?_; clear hK34
        refine swp_seq fun K36 hK36 => ?_
        refine swp_block ?_
        refine swp_seq fun K37 hK37 => ?_
        obtain ⟨g1, g2, g3, g4⟩ := q2F_bd hb2 hqj s
        obtain ⟨g5, g6⟩ := z2 (s := s) hp0 (wQ bs s (fnW bs s (tQ bs s (at_, 0) k)) (q2W bs s (tQ bs s (at_, 0) k)) j)
        obtain ⟨g7, g8⟩ := zF_bd (s := s) hp0 (fnW bs s (tQ bs s (at_, 0) k)) (wQ bs s (fnW bs s (tQ bs s (at_, 0) k)) (q2W bs s (tQ bs s (at_, 0) k)) j)
        have hzw : IntKind.i64.wrap (widB (fnW bs s (tQ bs s (at_, 0) k)) - nrF bs s (wQ bs s (fnW bs s (tQ bs s (at_, 0) k)) (q2W bs s (tQ bs s (at_, 0) k)) j)) = (zF bs s (fnW bs s (tQ bs s (at_, 0) k)) (wQ bs s (fnW bs s (tQ bs s (at_, 0) k)) (q2W bs s (tQ bs s (at_, 0) k)) j)) := by show IntKind.i64.wrap (zF bs s (fnW bs s (tQ bs s (at_, 0) k)) (wQ bs s (fnW bs s (tQ bs s (at_, 0) k)) (q2W bs s (tQ bs s (at_, 0) k)) j)) = _; exact w64 (by omega)
        have hzw1 : IntKind.i64.wrap ((zF bs s (fnW bs s (tQ bs s (at_, 0) k)) (wQ bs s (fnW bs s (tQ bs s (at_, 0) k)) (q2W bs s (tQ bs s (at_, 0) k)) j)) - 1) = (zF bs s (fnW bs s (tQ bs s (at_, 0) k)) (wQ bs s (fnW bs s (tQ bs s (at_, 0) k)) (q2W bs s (tQ bs s (at_, 0) k)) j)) - 1 := w64 (by omega)
        refine swp_draw ty_ok mixed (ms := [0, 0, 0, 4, 14, 0, 0, 64, 254, 511, 0, 2047]) (by kernel_rfl) ?_
        refine runD_cut 4 fun R38 hR38 => ?_
        try simp (maxSteps := 1000000) [runs, gd, step1, need, evu, un, opnds, opv, ev, cst, cst1, cstL, getT, getH, putT, onL, nxt, argT, cellsOf, PV.one, thn, inBlk, jmp, fldP, ldP, ldC, live, Cells.len, Cells.get, Cells.w, sug, ldv, bin, ops2, sh2, binv, Tk.agg, stC, apC, rdS, apS, mvL, zp, argsP, idx, fillP, toInts, chunks, mkC, ixS, ixA, oidx, slP, sl0, mxF, bltn, frzA, frz, frzL, frz1, pur1, Cells.pur, PV.scal, scal1, runD, rdO, PV.ids, id1, zids, ety, Eff.on, cnd, minb, and1b, ifmax, ifmin, mxv, sugI, strv, w0, w1, w2, wm1, szP, tL_len, wL_len, cfV_len, List.length_map, List.take_succ_cons, List.take_zero, List.drop_succ_cons, List.drop_zero]
        repeat' (first | apply And.intro | intro _)
        any_goals (first | (refine hR38 _ _ _ _ ?_; clear hR38) | (first | omega | (simp only [IntKind.wrap_i64] at *; omega) | (simp_all; done) | (simp_all; omega)))
        refine runD_cut 1 fun R39 hR39 => ?_
        try simp (maxSteps := 1000000) [runs, gd, step1, need, evu, un, opnds, opv, ev, cst, cst1, cstL, getT, getH, putT, onL, nxt, argT, cellsOf, PV.one, thn, inBlk, jmp, fldP, ldP, ldC, live, Cells.len, Cells.get, Cells.w, sug, ldv, bin, ops2, sh2, binv, Tk.agg, stC, apC, rdS, apS, mvL, zp, argsP, idx, fillP, toInts, chunks, mkC, ixS, ixA, oidx, slP, sl0, mxF, bltn, frzA, frz, frzL, frz1, pur1, Cells.pur, PV.scal, scal1, runD, rdO, PV.ids, id1, zids, ety, Eff.on, cnd, minb, and1b, ifmax, ifmin, mxv, sugI, strv, w0, w1, w2, wm1, szP, tL_len, wL_len, cfV_len, List.length_map, List.take_succ_cons, List.take_zero, List.drop_succ_cons, List.drop_zero]
        refine .inr (hcl_mk (tg_1 bs s (wQ bs s (fnW bs s (tQ bs s (at_, 0) k)) (q2W bs s (tQ bs s (at_, 0) k)) j) hb2 hp hqj) (by simp [PV.ids, id1, getH, Blk.inL, Cells.inL, inL1]) (by simp [PV.inL, inL1]) (by simp) ?_)
        try simp (maxSteps := 1000000) [runs, gd, step1, need, evu, un, opnds, opv, ev, cst, cst1, cstL, getT, getH, putT, onL, nxt, argT, cellsOf, PV.one, thn, inBlk, jmp, fldP, ldP, ldC, live, Cells.len, Cells.get, Cells.w, sug, ldv, bin, ops2, sh2, binv, Tk.agg, stC, apC, rdS, apS, mvL, zp, argsP, idx, fillP, toInts, chunks, mkC, ixS, ixA, oidx, slP, sl0, mxF, bltn, frzA, frz, frzL, frz1, pur1, Cells.pur, PV.scal, scal1, runD, rdO, PV.ids, id1, zids, ety, Eff.on, cnd, minb, and1b, ifmax, ifmin, mxv, sugI, strv, w0, w1, w2, wm1, szP, tL_len, wL_len, cfV_len, List.length_map]
        repeat' (first | apply And.intro | intro _)
        any_goals (first | (refine hR39 _ _ _ _ ?_; clear hR39) | (first | omega | (simp only [IntKind.wrap_i64] at *; omega) | (simp_all; done) | (simp_all; omega)))
        refine runD_cut 3 fun R40 hR40 => ?_
        try simp (maxSteps := 1000000) [runs, gd, step1, need, evu, un, opnds, opv, ev, cst, cst1, cstL, getT, getH, putT, onL, nxt, argT, cellsOf, PV.one, thn, inBlk, jmp, fldP, ldP, ldC, live, Cells.len, Cells.get, Cells.w, sug, ldv, bin, ops2, sh2, binv, Tk.agg, stC, apC, rdS, apS, mvL, zp, argsP, idx, fillP, toInts, chunks, mkC, ixS, ixA, oidx, slP, sl0, mxF, bltn, frzA, frz, frzL, frz1, pur1, Cells.pur, PV.scal, scal1, runD, rdO, PV.ids, id1, zids, ety, Eff.on, cnd, minb, and1b, ifmax, ifmin, mxv, sugI, strv, w0, w1, w2, wm1, szP, tL_len, wL_len, cfV_len, List.length_map, List.take_succ_cons, List.take_zero, List.drop_succ_cons, List.drop_zero]
        repeat' (first | apply And.intro | intro _)
        any_goals (first | (refine hR40 _ _ _ _ ?_; clear hR40) | (first | omega | (simp only [IntKind.wrap_i64] at *; omega) | (simp_all; done) | (simp_all; omega)))
        refine runD_cut 1 fun R41 hR41 => ?_
        try simp (maxSteps := 1000000) [runs, gd, step1, need, evu, un, opnds, opv, ev, cst, cst1, cstL, getT, getH, putT, onL, nxt, argT, cellsOf, PV.one, thn, inBlk, jmp, fldP, ldP, ldC, live, Cells.len, Cells.get, Cells.w, sug, ldv, bin, ops2, sh2, binv, Tk.agg, stC, apC, rdS, apS, mvL, zp, argsP, idx, fillP, toInts, chunks, mkC, ixS, ixA, oidx, slP, sl0, mxF, bltn, frzA, frz, frzL, frz1, pur1, Cells.pur, PV.scal, scal1, runD, rdO, PV.ids, id1, zids, ety, Eff.on, cnd, minb, and1b, ifmax, ifmin, mxv, sugI, strv, w0, w1, w2, wm1, szP, tL_len, wL_len, cfV_len, List.length_map, List.take_succ_cons, List.take_zero, List.drop_succ_cons, List.drop_zero]
        refine .inr (hcl_mk (tg_2 bs s (wQ bs s (fnW bs s (tQ bs s (at_, 0) k)) (q2W bs s (tQ bs s (at_, 0) k)) j) hb2 hp g1) (by simp [PV.ids, id1, getH, Blk.inL, Cells.inL, inL1]) (by simp [PV.inL, inL1]) (by simp) ?_)
        try simp (maxSteps := 1000000) [runs, gd, step1, need, evu, un, opnds, opv, ev, cst, cst1, cstL, getT, getH, putT, onL, nxt, argT, cellsOf, PV.one, thn, inBlk, jmp, fldP, ldP, ldC, live, Cells.len, Cells.get, Cells.w, sug, ldv, bin, ops2, sh2, binv, Tk.agg, stC, apC, rdS, apS, mvL, zp, argsP, idx, fillP, toInts, chunks, mkC, ixS, ixA, oidx, slP, sl0, mxF, bltn, frzA, frz, frzL, frz1, pur1, Cells.pur, PV.scal, scal1, runD, rdO, PV.ids, id1, zids, ety, Eff.on, cnd, minb, and1b, ifmax, ifmin, mxv, sugI, strv, w0, w1, w2, wm1, szP, tL_len, wL_len, cfV_len, List.length_map]
        repeat' (first | apply And.intro | intro _)
        any_goals (first | (refine hR41 _ _ _ _ ?_; clear hR41) | (first | omega | (simp only [IntKind.wrap_i64] at *; omega) | (simp_all; done) | (simp_all; omega)))
        try simp (maxSteps := 1000000) [runs, gd, step1, need, evu, un, opnds, opv, ev, cst, cst1, cstL, getT, getH, putT, onL, nxt, argT, cellsOf, PV.one, thn, inBlk, jmp, fldP, ldP, ldC, live, Cells.len, Cells.get, Cells.w, sug, ldv, bin, ops2, sh2, binv, Tk.agg, stC, apC, rdS, apS, mvL, zp, argsP, idx, fillP, toInts, chunks, mkC, ixS, ixA, oidx, slP, sl0, mxF, bltn, frzA, frz, frzL, frz1, pur1, Cells.pur, PV.scal, scal1, runD, rdO, PV.ids, id1, zids, ety, Eff.on, cnd, minb, and1b, ifmax, ifmin, mxv, sugI, strv, w0, w1, w2, wm1, szP, tL_len, wL_len, cfV_len, List.length_map, List.take_succ_cons, List.take_zero, List.drop_succ_cons, List.drop_zero]
        repeat' (first | apply And.intro | intro _)
        any_goals (first | kernel_rfl | (refine hK37 _ ?_; clear hK37) | (first | omega | (simp only [IntKind.wrap_i64] at *; omega) | (simp_all; done) | (simp_all; omega)))
        refine swp_seq fun K43 hK43 => ?_
        refine swp_seq fun K44 hK44 => ?_
        refine swp_region ty_ok ?_
        try simp (maxSteps := 1000000) [runs, gd, step1, need, evu, un, opnds, opv, ev, cst, cst1, cstL, getT, getH, putT, onL, nxt, argT, cellsOf, PV.one, thn, inBlk, jmp, fldP, ldP, ldC, live, Cells.len, Cells.get, Cells.w, sug, ldv, bin, ops2, sh2, binv, Tk.agg, stC, apC, rdS, apS, mvL, zp, argsP, idx, fillP, toInts, chunks, mkC, ixS, ixA, oidx, slP, sl0, mxF, bltn, frzA, frz, frzL, frz1, pur1, Cells.pur, PV.scal, scal1, runD, rdO, PV.ids, id1, zids, ety, Eff.on, cnd, minb, and1b, ifmax, ifmin, mxv, sugI, strv, w0, w1, w2, wm1, szP, tL_len, wL_len, cfV_len, List.length_map]
        repeat' (first | apply And.intro | intro _)
        any_goals (first | (refine hK44 _ ?_; clear hK44) | (first | omega | (simp only [IntKind.wrap_i64] at *; omega) | (simp_all; done) | (simp_all; omega)))
        refine swp_if fun C45 hC45 => ?_
        try simp (maxSteps := 1000000) [runs, gd, step1, need, evu, un, opnds, opv, ev, cst, cst1, cstL, getT, getH, putT, onL, nxt, argT, cellsOf, PV.one, thn, inBlk, jmp, fldP, ldP, ldC, live, Cells.len, Cells.get, Cells.w, sug, ldv, bin, ops2, sh2, binv, Tk.agg, stC, apC, rdS, apS, mvL, zp, argsP, idx, fillP, toInts, chunks, mkC, ixS, ixA, oidx, slP, sl0, mxF, bltn, frzA, frz, frzL, frz1, pur1, Cells.pur, PV.scal, scal1, runD, rdO, PV.ids, id1, zids, ety, Eff.on, cnd, minb, and1b, ifmax, ifmin, mxv, sugI, strv, w0, w1, w2, wm1, szP, tL_len, wL_len, cfV_len, List.length_map]
        refine hC45 _ (fun hc45 => ?_) (fun hc45 => ?_)
        · clear hC45
          try simp at hc45
          refine swp_seq fun K46 hK46 => ?_
          refine swp_region ty_ok ?_
          try simp (maxSteps := 1000000) [runs, gd, step1, need, evu, un, opnds, opv, ev, cst, cst1, cstL, getT, getH, putT, onL, nxt, argT, cellsOf, PV.one, thn, inBlk, jmp, fldP, ldP, ldC, live, Cells.len, Cells.get, Cells.w, sug, ldv, bin, ops2, sh2, binv, Tk.agg, stC, apC, rdS, apS, mvL, zp, argsP, idx, fillP, toInts, chunks, mkC, ixS, ixA, oidx, slP, sl0, mxF, bltn, frzA, frz, frzL, frz1, pur1, Cells.pur, PV.scal, scal1, runD, rdO, PV.ids, id1, zids, ety, Eff.on, cnd, minb, and1b, ifmax, ifmin, mxv, sugI, strv, w0, w1, w2, wm1, szP, tL_len, wL_len, cfV_len, List.length_map]
          repeat' (first | apply And.intro | intro _)
          any_goals (first | (refine hK46 _ ?_; clear hK46) | (first | omega | (simp only [IntKind.wrap_i64] at *; omega) | (simp_all; done) | (simp_all; omega)))
          refine swp_ret ?_
          simp [runs, gd, step1, need, evu, un, opnds, opv, ev, cst, cst1, cstL, getT, getH, putT, onL, nxt, argT, cellsOf, PV.one, thn, inBlk, jmp, fldP, ldP, ldC, live, Cells.len, Cells.get, Cells.w, sug, ldv, bin, ops2, sh2, binv, Tk.agg, stC, apC, rdS, apS, mvL, zp, argsP, idx, fillP, toInts, chunks, mkC, ixS, ixA, oidx, slP, sl0, mxF, bltn, frzA, frz, frzL, frz1, pur1, Cells.pur, PV.scal, scal1, runD, rdO, PV.ids, id1, zids, ety, Eff.on, cnd, minb, and1b, ifmax, ifmin, mxv, sugI, strv, w0, w1, w2, wm1, fnPost, Try.results25, resP, tupOf]
          exact getT_1 (getT_stop hw0 (k := k) (j := j) (by omega) (by omega) (by simpa [stF] using hc45)) (by omega)
        · clear hC45
          try simp at hc45
          refine swp_skip ?_
          simp only [thn, inBlk]
          refine hK43 _ ?_; clear hK43
          refine swp_seq fun K47 hK47 => ?_
          refine swp_seq fun K48 hK48 => ?_
          have hst : stF bs s (wQ bs s (fnW bs s (tQ bs s (at_, 0) k)) (q2W bs s (tQ bs s (at_, 0) k)) j) = false := by simpa [stF] using hc45
          refine swp_region ty_ok ?_
          try simp (maxSteps := 1000000) [runs, gd, step1, need, evu, un, opnds, opv, ev, cst, cst1, cstL, getT, getH, putT, onL, nxt, argT, cellsOf, PV.one, thn, inBlk, jmp, fldP, ldP, ldC, live, Cells.len, Cells.get, Cells.w, sug, ldv, bin, ops2, sh2, binv, Tk.agg, stC, apC, rdS, apS, mvL, zp, argsP, idx, fillP, toInts, chunks, mkC, ixS, ixA, oidx, slP, sl0, mxF, bltn, frzA, frz, frzL, frz1, pur1, Cells.pur, PV.scal, scal1, runD, rdO, PV.ids, id1, zids, ety, Eff.on, cnd, minb, and1b, ifmax, ifmin, mxv, sugI, strv, w0, w1, w2, wm1, szP, tL_len, wL_len, cfV_len, List.length_map]
          repeat' (first | apply And.intro | intro _)
          any_goals (first | (refine hK48 _ ?_; clear hK48) | (first | omega | (simp only [IntKind.wrap_i64] at *; omega) | (simp_all; done) | (simp_all; omega)))
          refine swp_if fun C49 hC49 => ?_
          try simp (maxSteps := 1000000) [runs, gd, step1, need, evu, un, opnds, opv, ev, cst, cst1, cstL, getT, getH, putT, onL, nxt, argT, cellsOf, PV.one, thn, inBlk, jmp, fldP, ldP, ldC, live, Cells.len, Cells.get, Cells.w, sug, ldv, bin, ops2, sh2, binv, Tk.agg, stC, apC, rdS, apS, mvL, zp, argsP, idx, fillP, toInts, chunks, mkC, ixS, ixA, oidx, slP, sl0, mxF, bltn, frzA, frz, frzL, frz1, pur1, Cells.pur, PV.scal, scal1, runD, rdO, PV.ids, id1, zids, ety, Eff.on, cnd, minb, and1b, ifmax, ifmin, mxv, sugI, strv, w0, w1, w2, wm1, szP, tL_len, wL_len, cfV_len, List.length_map]
          refine hC49 _ (fun hc49 => ?_) (fun hc49 => ?_)
          · clear hC49
            try simp at hc49
            refine swp_seq fun K50 hK50 => ?_
            refine swp_region ty_ok ?_
            refine runs_cut 1 fun R51 hR51 => ?_
            try simp (maxSteps := 1000000) [runs, gd, step1, need, evu, un, opnds, opv, ev, cst, cst1, cstL, getT, getH, putT, onL, nxt, argT, cellsOf, PV.one, thn, inBlk, jmp, fldP, ldP, ldC, live, Cells.len, Cells.get, Cells.w, sug, ldv, bin, ops2, sh2, binv, Tk.agg, stC, apC, rdS, apS, mvL, zp, argsP, idx, fillP, toInts, chunks, mkC, ixS, ixA, oidx, slP, sl0, mxF, bltn, frzA, frz, frzL, frz1, pur1, Cells.pur, PV.scal, scal1, runD, rdO, PV.ids, id1, zids, ety, Eff.on, cnd, minb, and1b, ifmax, ifmin, mxv, sugI, strv, w0, w1, w2, wm1, szP, tL_len, wL_len, cfV_len, List.length_map, List.take_succ_cons, List.take_zero, List.drop_succ_cons, List.drop_zero]
            repeat' (first | apply And.intro | intro _)
            any_goals (first | (refine hR51 _ ?_; clear hR51) | (first | omega | (simp only [IntKind.wrap_i64] at *; omega) | (simp_all; done) | (simp_all; omega)))
            refine runs_cut 1 fun R52 hR52 => ?_
            try simp (maxSteps := 1000000) [runs, gd, step1, need, evu, un, opnds, opv, ev, cst, cst1, cstL, getT, getH, putT, onL, nxt, argT, cellsOf, PV.one, thn, inBlk, jmp, fldP, ldP, ldC, live, Cells.len, Cells.get, Cells.w, sug, ldv, bin, ops2, sh2, binv, Tk.agg, stC, apC, rdS, apS, mvL, zp, argsP, idx, fillP, toInts, chunks, mkC, ixS, ixA, oidx, slP, sl0, mxF, bltn, frzA, frz, frzL, frz1, pur1, Cells.pur, PV.scal, scal1, runD, rdO, PV.ids, id1, zids, ety, Eff.on, cnd, minb, and1b, ifmax, ifmin, mxv, sugI, strv, w0, w1, w2, wm1, szP, tL_len, wL_len, cfV_len, List.length_map, List.take_succ_cons, List.take_zero, List.drop_succ_cons, List.drop_zero]
            refine .inr (hcl_mk (tg_3 bs s (wQ bs s (fnW bs s (tQ bs s (at_, 0) k)) (q2W bs s (tQ bs s (at_, 0) k)) j) hb2 hp g2) (by simp [PV.ids, id1, getH, Blk.inL, Cells.inL, inL1]) (by simp [PV.inL, inL1]) (by simp) ?_)
            try simp (maxSteps := 1000000) [runs, gd, step1, need, evu, un, opnds, opv, ev, cst, cst1, cstL, getT, getH, putT, onL, nxt, argT, cellsOf, PV.one, thn, inBlk, jmp, fldP, ldP, ldC, live, Cells.len, Cells.get, Cells.w, sug, ldv, bin, ops2, sh2, binv, Tk.agg, stC, apC, rdS, apS, mvL, zp, argsP, idx, fillP, toInts, chunks, mkC, ixS, ixA, oidx, slP, sl0, mxF, bltn, frzA, frz, frzL, frz1, pur1, Cells.pur, PV.scal, scal1, runD, rdO, PV.ids, id1, zids, ety, Eff.on, cnd, minb, and1b, ifmax, ifmin, mxv, sugI, strv, w0, w1, w2, wm1, szP, tL_len, wL_len, cfV_len, List.length_map]
            repeat' (first | apply And.intro | intro _)
            any_goals (first | (refine hR52 _ ?_; clear hR52) | (first | omega | (simp only [IntKind.wrap_i64] at *; omega) | (simp_all; done) | (simp_all; omega)))
            try simp (maxSteps := 1000000) [runs, gd, step1, need, evu, un, opnds, opv, ev, cst, cst1, cstL, getT, getH, putT, onL, nxt, argT, cellsOf, PV.one, thn, inBlk, jmp, fldP, ldP, ldC, live, Cells.len, Cells.get, Cells.w, sug, ldv, bin, ops2, sh2, binv, Tk.agg, stC, apC, rdS, apS, mvL, zp, argsP, idx, fillP, toInts, chunks, mkC, ixS, ixA, oidx, slP, sl0, mxF, bltn, frzA, frz, frzL, frz1, pur1, Cells.pur, PV.scal, scal1, runD, rdO, PV.ids, id1, zids, ety, Eff.on, cnd, minb, and1b, ifmax, ifmin, mxv, sugI, strv, w0, w1, w2, wm1, szP, tL_len, wL_len, cfV_len, List.length_map, List.take_succ_cons, List.take_zero, List.drop_succ_cons, List.drop_zero]
            repeat' (first | apply And.intro | intro _)
            any_goals (first | (refine hK50 _ ?_; clear hK50) | (first | omega | (simp only [IntKind.wrap_i64] at *; omega) | (simp_all; done) | (simp_all; omega)))
            refine swp_seq fun K53 hK53 => ?_
            refine swp_region ty_ok ?_
            refine runs_cut 1 fun R54 hR54 => ?_
            try simp (maxSteps := 1000000) [runs, gd, step1, need, evu, un, opnds, opv, ev, cst, cst1, cstL, getT, getH, putT, onL, nxt, argT, cellsOf, PV.one, thn, inBlk, jmp, fldP, ldP, ldC, live, Cells.len, Cells.get, Cells.w, sug, ldv, bin, ops2, sh2, binv, Tk.agg, stC, apC, rdS, apS, mvL, zp, argsP, idx, fillP, toInts, chunks, mkC, ixS, ixA, oidx, slP, sl0, mxF, bltn, frzA, frz, frzL, frz1, pur1, Cells.pur, PV.scal, scal1, runD, rdO, PV.ids, id1, zids, ety, Eff.on, cnd, minb, and1b, ifmax, ifmin, mxv, sugI, strv, w0, w1, w2, wm1, szP, tL_len, wL_len, cfV_len, List.length_map, List.take_succ_cons, List.take_zero, List.drop_succ_cons, List.drop_zero]
            repeat' (first | apply And.intro | intro _)
            any_goals (first | (refine hR54 _ ?_; clear hR54) | (first | omega | (simp only [IntKind.wrap_i64] at *; omega) | (simp_all; done) | (simp_all; omega)))
            refine runs_cut 1 fun R55 hR55 => ?_
            try simp (maxSteps := 1000000) [runs, gd, step1, need, evu, un, opnds, opv, ev, cst, cst1, cstL, getT, getH, putT, onL, nxt, argT, cellsOf, PV.one, thn, inBlk, jmp, fldP, ldP, ldC, live, Cells.len, Cells.get, Cells.w, sug, ldv, bin, ops2, sh2, binv, Tk.agg, stC, apC, rdS, apS, mvL, zp, argsP, idx, fillP, toInts, chunks, mkC, ixS, ixA, oidx, slP, sl0, mxF, bltn, frzA, frz, frzL, frz1, pur1, Cells.pur, PV.scal, scal1, runD, rdO, PV.ids, id1, zids, ety, Eff.on, cnd, minb, and1b, ifmax, ifmin, mxv, sugI, strv, w0, w1, w2, wm1, szP, tL_len, wL_len, cfV_len, List.length_map, List.take_succ_cons, List.take_zero, List.drop_succ_cons, List.drop_zero]
            refine .inr (hcl_mk (tg_4 bs s (wQ bs s (fnW bs s (tQ bs s (at_, 0) k)) (q2W bs s (tQ bs s (at_, 0) k)) j) hb2 hp g3) (by simp [PV.ids, id1, getH, Blk.inL, Cells.inL, inL1]) (by simp [PV.inL, inL1]) (by simp) ?_)
            try simp (maxSteps := 1000000) [runs, gd, step1, need, evu, un, opnds, opv, ev, cst, cst1, cstL, getT, getH, putT, onL, nxt, argT, cellsOf, PV.one, thn, inBlk, jmp, fldP, ldP, ldC, live, Cells.len, Cells.get, Cells.w, sug, ldv, bin, ops2, sh2, binv, Tk.agg, stC, apC, rdS, apS, mvL, zp, argsP, idx, fillP, toInts, chunks, mkC, ixS, ixA, oidx, slP, sl0, mxF, bltn, frzA, frz, frzL, frz1, pur1, Cells.pur, PV.scal, scal1, runD, rdO, PV.ids, id1, zids, ety, Eff.on, cnd, minb, and1b, ifmax, ifmin, mxv, sugI, strv, w0, w1, w2, wm1, szP, tL_len, wL_len, cfV_len, List.length_map]
            repeat' (first | apply And.intro | intro _)
            any_goals (first | (refine hR55 _ ?_; clear hR55) | (first | omega | (simp only [IntKind.wrap_i64] at *; omega) | (simp_all; done) | (simp_all; omega)))
            try simp (maxSteps := 1000000) [runs, gd, step1, need, evu, un, opnds, opv, ev, cst, cst1, cstL, getT, getH, putT, onL, nxt, argT, cellsOf, PV.one, thn, inBlk, jmp, fldP, ldP, ldC, live, Cells.len, Cells.get, Cells.w, sug, ldv, bin, ops2, sh2, binv, Tk.agg, stC, apC, rdS, apS, mvL, zp, argsP, idx, fillP, toInts, chunks, mkC, ixS, ixA, oidx, slP, sl0, mxF, bltn, frzA, frz, frzL, frz1, pur1, Cells.pur, PV.scal, scal1, runD, rdO, PV.ids, id1, zids, ety, Eff.on, cnd, minb, and1b, ifmax, ifmin, mxv, sugI, strv, w0, w1, w2, wm1, szP, tL_len, wL_len, cfV_len, List.length_map, List.take_succ_cons, List.take_zero, List.drop_succ_cons, List.drop_zero]
            repeat' (first | apply And.intro | intro _)
            any_goals (first | (refine hK53 _ ?_; clear hK53) | (first | omega | (simp only [IntKind.wrap_i64] at *; omega) | (simp_all; done) | (simp_all; omega)))
            refine swp_seq fun K56 hK56 => ?_
            refine swp_region ty_ok ?_
            refine runs_cut 1 fun R57 hR57 => ?_
            try simp (maxSteps := 1000000) [runs, gd, step1, need, evu, un, opnds, opv, ev, cst, cst1, cstL, getT, getH, putT, onL, nxt, argT, cellsOf, PV.one, thn, inBlk, jmp, fldP, ldP, ldC, live, Cells.len, Cells.get, Cells.w, sug, ldv, bin, ops2, sh2, binv, Tk.agg, stC, apC, rdS, apS, mvL, zp, argsP, idx, fillP, toInts, chunks, mkC, ixS, ixA, oidx, slP, sl0, mxF, bltn, frzA, frz, frzL, frz1, pur1, Cells.pur, PV.scal, scal1, runD, rdO, PV.ids, id1, zids, ety, Eff.on, cnd, minb, and1b, ifmax, ifmin, mxv, sugI, strv, w0, w1, w2, wm1, szP, tL_len, wL_len, cfV_len, List.length_map, hzw, List.take_succ_cons, List.take_zero, List.drop_succ_cons, List.drop_zero]
            repeat' (first | apply And.intro | intro _)
            any_goals (first | (refine hR57 _ ?_; clear hR57) | (first | omega | (simp only [IntKind.wrap_i64] at *; omega) | (simp_all; done) | (simp_all; omega)))
            refine runs_cut 1 fun R58 hR58 => ?_
            try simp (maxSteps := 1000000) [runs, gd, step1, need, evu, un, opnds, opv, ev, cst, cst1, cstL, getT, getH, putT, onL, nxt, argT, cellsOf, PV.one, thn, inBlk, jmp, fldP, ldP, ldC, live, Cells.len, Cells.get, Cells.w, sug, ldv, bin, ops2, sh2, binv, Tk.agg, stC, apC, rdS, apS, mvL, zp, argsP, idx, fillP, toInts, chunks, mkC, ixS, ixA, oidx, slP, sl0, mxF, bltn, frzA, frz, frzL, frz1, pur1, Cells.pur, PV.scal, scal1, runD, rdO, PV.ids, id1, zids, ety, Eff.on, cnd, minb, and1b, ifmax, ifmin, mxv, sugI, strv, w0, w1, w2, wm1, szP, tL_len, wL_len, cfV_len, List.length_map, hzw, List.take_succ_cons, List.take_zero, List.drop_succ_cons, List.drop_zero]
            refine .inl ⟨_, tnsbits_wide_ok _, ?_⟩
            try simp (maxSteps := 1000000) [runs, gd, step1, need, evu, un, opnds, opv, ev, cst, cst1, cstL, getT, getH, putT, onL, nxt, argT, cellsOf, PV.one, thn, inBlk, jmp, fldP, ldP, ldC, live, Cells.len, Cells.get, Cells.w, sug, ldv, bin, ops2, sh2, binv, Tk.agg, stC, apC, rdS, apS, mvL, zp, argsP, idx, fillP, toInts, chunks, mkC, ixS, ixA, oidx, slP, sl0, mxF, bltn, frzA, frz, frzL, frz1, pur1, Cells.pur, PV.scal, scal1, runD, rdO, PV.ids, id1, zids, ety, Eff.on, cnd, minb, and1b, ifmax, ifmin, mxv, sugI, strv, w0, w1, w2, wm1, szP, tL_len, wL_len, cfV_len, List.length_map, hzw]
            repeat' (first | apply And.intro | intro _)
            any_goals (first | (refine hR58 _ ?_; clear hR58) | (first | omega | (simp only [IntKind.wrap_i64] at *; omega) | (simp_all; done) | (simp_all; omega)))
            try simp (maxSteps := 1000000) [runs, gd, step1, need, evu, un, opnds, opv, ev, cst, cst1, cstL, getT, getH, putT, onL, nxt, argT, cellsOf, PV.one, thn, inBlk, jmp, fldP, ldP, ldC, live, Cells.len, Cells.get, Cells.w, sug, ldv, bin, ops2, sh2, binv, Tk.agg, stC, apC, rdS, apS, mvL, zp, argsP, idx, fillP, toInts, chunks, mkC, ixS, ixA, oidx, slP, sl0, mxF, bltn, frzA, frz, frzL, frz1, pur1, Cells.pur, PV.scal, scal1, runD, rdO, PV.ids, id1, zids, ety, Eff.on, cnd, minb, and1b, ifmax, ifmin, mxv, sugI, strv, w0, w1, w2, wm1, szP, tL_len, wL_len, cfV_len, List.length_map, hzw, List.take_succ_cons, List.take_zero, List.drop_succ_cons, List.drop_zero]
            repeat' (first | apply And.intro | intro _)
            any_goals (first | (refine hK56 _ ?_; clear hK56) | (first | omega | (simp only [IntKind.wrap_i64] at *; omega) | (simp_all; done) | (simp_all; omega)))
            refine swp_seq fun K59 hK59 => ?_
            refine swp_seq fun K60 hK60 => ?_
            refine swp_region ty_ok ?_
            try simp (maxSteps := 1000000) [runs, gd, step1, need, evu, un, opnds, opv, ev, cst, cst1, cstL, getT, getH, putT, onL, nxt, argT, cellsOf, PV.one, thn, inBlk, jmp, fldP, ldP, ldC, live, Cells.len, Cells.get, Cells.w, sug, ldv, bin, ops2, sh2, binv, Tk.agg, stC, apC, rdS, apS, mvL, zp, argsP, idx, fillP, toInts, chunks, mkC, ixS, ixA, oidx, slP, sl0, mxF, bltn, frzA, frz, frzL, frz1, pur1, Cells.pur, PV.scal, scal1, runD, rdO, PV.ids, id1, zids, ety, Eff.on, cnd, minb, and1b, ifmax, ifmin, mxv, sugI, strv, w0, w1, w2, wm1, szP, tL_len, wL_len, cfV_len, List.length_map]
            repeat' (first | apply And.intro | intro _)
            any_goals (first | (refine hK60 _ ?_; clear hK60) | (first | omega | (simp only [IntKind.wrap_i64] at *; omega) | (simp_all; done) | (simp_all; omega)))
            refine swp_block ?_
            refine swp_ownb 87 4 3 (by rfl) (by rfl) (by rfl) ?_
            simp only [List.set]
            refine swp_loop 104 (fun m_ s_ => ∃ (i : Nat), ((i : Int) ≤ oF bs s (wQ bs s (fnW bs s (tQ bs s (at_, 0) k)) (q2W bs s (tQ bs s (at_, 0) k)) j)) ∧ s_ = ⟨[(7, .ptr 2 0 0 1), (8, .ptr 3 0 0 1), (10, .fn 65 [.ptr 3 0 0 1, .ptr 0 0 0 1, .ptr 2 0 0 1]), (11, .ptr 4 0 0 1), (32, .int .i64 (winI s sh m g)), (33, .int .i64 (k : Nat)), (6, .sl 5 0 k k), (12, .bool (tO bs s (at_, 0) k || wO bs s (fnW bs s (tQ bs s (at_, 0) k)) (q2W bs s (tQ bs s (at_, 0) k)) j)), (13, .sl 6 0 j j), (15, .bool (fnW bs s (tQ bs s (at_, 0) k))), (46, .int .i64 (mW bs s (tQ bs s (at_, 0) k))), (47, .int .i64 (j : Nat)), (16, .ptr 87 0 0 1), (17, .int .i64 (nrF bs s (wQ bs s (fnW bs s (tQ bs s (at_, 0) k)) (q2W bs s (tQ bs s (at_, 0) k)) j))), (18, .int .i64 (zF bs s (fnW bs s (tQ bs s (at_, 0) k)) (wQ bs s (fnW bs s (tQ bs s (at_, 0) k)) (q2W bs s (tQ bs s (at_, 0) k)) j))), (80, .int .i64 (oF bs s (wQ bs s (fnW bs s (tQ bs s (at_, 0) k)) (q2W bs s (tQ bs s (at_, 0) k)) j))), (81, .int .i64 (i : Nat))], [(0, some ⟨.rows 1 [[.ro (.ints .u8 bs)]], true, 45⟩), (1, some ⟨.rows 4 [[.int .u8 s, .int .u8 sh, .int .i64 m, .ro (.ints .i64 g)]], true, 24⟩), (2, some ⟨.rows 1 [[.int .i64 (cfQ bs (zF bs s (fnW bs s (tQ bs s (at_, 0) k)) (wQ bs s (fnW bs s (tQ bs s (at_, 0) k)) (q2W bs s (tQ bs s (at_, 0) k)) j)) (q4F bs s (wQ bs s (fnW bs s (tQ bs s (at_, 0) k)) (q2W bs s (tQ bs s (at_, 0) k)) j)) i).1]], true, 3⟩), (3, some ⟨.rows 1 [[.int .i64 (cfQ bs (zF bs s (fnW bs s (tQ bs s (at_, 0) k)) (wQ bs s (fnW bs s (tQ bs s (at_, 0) k)) (q2W bs s (tQ bs s (at_, 0) k)) j)) (q4F bs s (wQ bs s (fnW bs s (tQ bs s (at_, 0) k)) (q2W bs s (tQ bs s (at_, 0) k)) j)) i).2]], true, 41⟩), (4, some ⟨.rows 5 [[.int .i64 (sz0 s), .int .i64 (sz1 s), .int .i64 (sz2 s), .int .i64 (sz3 s), .int .i64 (sz4 s)]], true, 86⟩), (5, some ⟨.rows 1 ((tL bs s (at_, 0) k).map fun w => [.ro (.rows 5 (w.map Fl.row))]), false, 33⟩), (6, some ⟨.rows 5 ((wL bs s (fnW bs s (tQ bs s (at_, 0) k)) (q2W bs s (tQ bs s (at_, 0) k)) j).map Fl.row), false, 35⟩), (87, some ⟨.rows 5 [[.int .i64 (rN bs (wQ bs s (fnW bs s (tQ bs s (at_, 0) k)) (q2W bs s (tQ bs s (at_, 0) k)) j) (sz1 s)), .int .i64 (oF bs s (wQ bs s (fnW bs s (tQ bs s (at_, 0) k)) (q2W bs s (tQ bs s (at_, 0) k)) j)), .bool (decide (dnF bs s (wQ bs s (fnW bs s (tQ bs s (at_, 0) k)) (q2W bs s (tQ bs s (at_, 0) k)) j) = 1)), .bool (fnW bs s (tQ bs s (at_, 0) k)), .sl 103 0 i i]], true, 35⟩), (103, some ⟨.ints .i64 (cfV bs (zF bs s (fnW bs s (tQ bs s (at_, 0) k)) (wQ bs s (fnW bs s (tQ bs s (at_, 0) k)) (q2W bs s (tQ bs s (at_, 0) k)) j)) (q4F bs s (wQ bs s (fnW bs s (tQ bs s (at_, 0) k)) (q2W bs s (tQ bs s (at_, 0) k)) j)) i), false, 3⟩)], 104⟩ ∧ m_ = (oF bs s (wQ bs s (fnW bs s (tQ bs s (at_, 0) k)) (q2W bs s (tQ bs s (at_, 0) k)) j)).toNat - i) _ ⟨[(7, .ptr 2 0 0 1), (8, .ptr 3 0 0 1), (10, .fn 65 [.ptr 3 0 0 1, .ptr 0 0 0 1, .ptr 2 0 0 1]), (11, .ptr 4 0 0 1), (32, .int .i64 (winI s sh m g)), (33, .int .i64 (k : Nat)), (6, .sl 5 0 k k), (12, .bool (tO bs s (at_, 0) k || wO bs s (fnW bs s (tQ bs s (at_, 0) k)) (q2W bs s (tQ bs s (at_, 0) k)) j)), (13, .sl 6 0 j j), (15, .bool (fnW bs s (tQ bs s (at_, 0) k))), (46, .int .i64 (mW bs s (tQ bs s (at_, 0) k))), (47, .int .i64 (j : Nat)), (16, .ptr 87 0 0 1), (17, .int .i64 (nrF bs s (wQ bs s (fnW bs s (tQ bs s (at_, 0) k)) (q2W bs s (tQ bs s (at_, 0) k)) j))), (18, .int .i64 (zF bs s (fnW bs s (tQ bs s (at_, 0) k)) (wQ bs s (fnW bs s (tQ bs s (at_, 0) k)) (q2W bs s (tQ bs s (at_, 0) k)) j))), (80, .int .i64 (oF bs s (wQ bs s (fnW bs s (tQ bs s (at_, 0) k)) (q2W bs s (tQ bs s (at_, 0) k)) j))), (81, .int .i64 (0 : Nat))], [(0, some ⟨.rows 1 [[.ro (.ints .u8 bs)]], true, 45⟩), (1, some ⟨.rows 4 [[.int .u8 s, .int .u8 sh, .int .i64 m, .ro (.ints .i64 g)]], true, 24⟩), (2, some ⟨.rows 1 [[.int .i64 (cfQ bs (zF bs s (fnW bs s (tQ bs s (at_, 0) k)) (wQ bs s (fnW bs s (tQ bs s (at_, 0) k)) (q2W bs s (tQ bs s (at_, 0) k)) j)) (q4F bs s (wQ bs s (fnW bs s (tQ bs s (at_, 0) k)) (q2W bs s (tQ bs s (at_, 0) k)) j)) 0).1]], true, 3⟩), (3, some ⟨.rows 1 [[.int .i64 (cfQ bs (zF bs s (fnW bs s (tQ bs s (at_, 0) k)) (wQ bs s (fnW bs s (tQ bs s (at_, 0) k)) (q2W bs s (tQ bs s (at_, 0) k)) j)) (q4F bs s (wQ bs s (fnW bs s (tQ bs s (at_, 0) k)) (q2W bs s (tQ bs s (at_, 0) k)) j)) 0).2]], true, 41⟩), (4, some ⟨.rows 5 [[.int .i64 (sz0 s), .int .i64 (sz1 s), .int .i64 (sz2 s), .int .i64 (sz3 s), .int .i64 (sz4 s)]], true, 86⟩), (5, some ⟨.rows 1 ((tL bs s (at_, 0) k).map fun w => [.ro (.rows 5 (w.map Fl.row))]), false, 33⟩), (6, some ⟨.rows 5 ((wL bs s (fnW bs s (tQ bs s (at_, 0) k)) (q2W bs s (tQ bs s (at_, 0) k)) j).map Fl.row), false, 35⟩), (87, some ⟨.rows 5 [[.int .i64 (rN bs (wQ bs s (fnW bs s (tQ bs s (at_, 0) k)) (q2W bs s (tQ bs s (at_, 0) k)) j) (sz1 s)), .int .i64 (oF bs s (wQ bs s (fnW bs s (tQ bs s (at_, 0) k)) (q2W bs s (tQ bs s (at_, 0) k)) j)), .bool (decide (dnF bs s (wQ bs s (fnW bs s (tQ bs s (at_, 0) k)) (q2W bs s (tQ bs s (at_, 0) k)) j) = 1)), .bool (fnW bs s (tQ bs s (at_, 0) k)), .sl 103 0 0 0]], true, 35⟩), (103, some ⟨.ints .i64 (cfV bs (zF bs s (fnW bs s (tQ bs s (at_, 0) k)) (wQ bs s (fnW bs s (tQ bs s (at_, 0) k)) (q2W bs s (tQ bs s (at_, 0) k)) j)) (q4F bs s (wQ bs s (fnW bs s (tQ bs s (at_, 0) k)) (q2W bs s (tQ bs s (at_, 0) k)) j)) 0), false, 3⟩)], 104⟩ ⟨by simp [getT, PV.lo, lo1], by simp [getH, Blk.lo, Cells.lo, lo1, cfQ, cfV], rfl, by omega⟩ ⟨(0), by (first | omega | (simp only [IntKind.wrap_i64] at *; omega) | (simp_all; done) | (simp_all; omega)), rfl, rfl⟩ ?_
            rintro m_ s_ ⟨i, hL61_0, rfl, rfl⟩ KL61 hL61
            have hiw : IntKind.i64.wrap ((i : Int) + 1) = (((i + 1 : Nat)) : Int) := wnext (by omega)
            refine swp_seq fun K62 hK62 => ?_
            refine swp_region ty_ok ?_
            try simp (maxSteps := 1000000) [runs, gd, step1, need, evu, un, opnds, opv, ev, cst, cst1, cstL, getT, getH, putT, onL, nxt, argT, cellsOf, PV.one, thn, inBlk, jmp, fldP, ldP, ldC, live, Cells.len, Cells.get, Cells.w, sug, ldv, bin, ops2, sh2, binv, Tk.agg, stC, apC, rdS, apS, mvL, zp, argsP, idx, fillP, toInts, chunks, mkC, ixS, ixA, oidx, slP, sl0, mxF, bltn, frzA, frz, frzL, frz1, pur1, Cells.pur, PV.scal, scal1, runD, rdO, PV.ids, id1, zids, ety, Eff.on, cnd, minb, and1b, ifmax, ifmin, mxv, sugI, strv, w0, w1, w2, wm1, szP, tL_len, wL_len, cfV_len, List.length_map]
            repeat' (first | apply And.intro | intro _)
            any_goals (first | (refine hK62 _ ?_; clear hK62) | (first | omega | (simp only [IntKind.wrap_i64] at *; omega) | (simp_all; done) | (simp_all; omega)))
            refine swp_seq fun K63 hK63 => ?_
            refine swp_if fun C64 hC64 => ?_
            try simp (maxSteps := 1000000) [runs, gd, step1, need, evu, un, opnds, opv, ev, cst, cst1, cstL, getT, getH, putT, onL, nxt, argT, cellsOf, PV.one, thn, inBlk, jmp, fldP, ldP, ldC, live, Cells.len, Cells.get, Cells.w, sug, ldv, bin, ops2, sh2, binv, Tk.agg, stC, apC, rdS, apS, mvL, zp, argsP, idx, fillP, toInts, chunks, mkC, ixS, ixA, oidx, slP, sl0, mxF, bltn, frzA, frz, frzL, frz1, pur1, Cells.pur, PV.scal, scal1, runD, rdO, PV.ids, id1, zids, ety, Eff.on, cnd, minb, and1b, ifmax, ifmin, mxv, sugI, strv, w0, w1, w2, wm1, szP, tL_len, wL_len, cfV_len, List.length_map]
            refine hC64 _ (fun hc64 => ?_) (fun hc64 => ?_)
            · clear hC64
              try simp at hc64
              refine swp_skip ?_
              simp only [thn, inBlk]
              refine hK63 _ ?_; clear hK63
              refine swp_seq fun K65 hK65 => ?_
              refine swp_block ?_
              refine swp_seq fun K66 hK66 => ?_
              refine swp_region ty_ok ?_
              refine runs_cut 2 fun R67 hR67 => ?_
              try simp (maxSteps := 1000000) [runs, gd, step1, need, evu, un, opnds, opv, ev, cst, cst1, cstL, getT, getH, putT, onL, nxt, argT, cellsOf, PV.one, thn, inBlk, jmp, fldP, ldP, ldC, live, Cells.len, Cells.get, Cells.w, sug, ldv, bin, ops2, sh2, binv, Tk.agg, stC, apC, rdS, apS, mvL, zp, argsP, idx, fillP, toInts, chunks, mkC, ixS, ixA, oidx, slP, sl0, mxF, bltn, frzA, frz, frzL, frz1, pur1, Cells.pur, PV.scal, scal1, runD, rdO, PV.ids, id1, zids, ety, Eff.on, cnd, minb, and1b, ifmax, ifmin, mxv, sugI, strv, w0, w1, w2, wm1, szP, tL_len, wL_len, cfV_len, List.length_map, List.take_succ_cons, List.take_zero, List.drop_succ_cons, List.drop_zero]
              repeat' (first | apply And.intro | intro _)
              any_goals (first | (refine hR67 _ ?_; clear hR67) | (first | omega | (simp only [IntKind.wrap_i64] at *; omega) | (simp_all; done) | (simp_all; omega)))
              refine runs_cut 1 fun R68 hR68 => ?_
              try simp (maxSteps := 1000000) [runs, gd, step1, need, evu, un, opnds, opv, ev, cst, cst1, cstL, getT, getH, putT, onL, nxt, argT, cellsOf, PV.one, thn, inBlk, jmp, fldP, ldP, ldC, live, Cells.len, Cells.get, Cells.w, sug, ldv, bin, ops2, sh2, binv, Tk.agg, stC, apC, rdS, apS, mvL, zp, argsP, idx, fillP, toInts, chunks, mkC, ixS, ixA, oidx, slP, sl0, mxF, bltn, frzA, frz, frzL, frz1, pur1, Cells.pur, PV.scal, scal1, runD, rdO, PV.ids, id1, zids, ety, Eff.on, cnd, minb, and1b, ifmax, ifmin, mxv, sugI, strv, w0, w1, w2, wm1, szP, tL_len, wL_len, cfV_len, List.length_map, List.take_succ_cons, List.take_zero, List.drop_succ_cons, List.drop_zero]
              refine .inr (hcl_mk (tg_c bs s (q4F bs s (wQ bs s (fnW bs s (tQ bs s (at_, 0) k)) (q2W bs s (tQ bs s (at_, 0) k)) j)) (zF bs s (fnW bs s (tQ bs s (at_, 0) k)) (wQ bs s (fnW bs s (tQ bs s (at_, 0) k)) (q2W bs s (tQ bs s (at_, 0) k)) j)) i hb2 hp (cfQ_bd hb2 g4 _ i)) (by simp [PV.ids, id1, getH, Blk.inL, Cells.inL, inL1]) (by simp [PV.inL, inL1]) (by simp) ?_)
              try simp (maxSteps := 1000000) [runs, gd, step1, need, evu, un, opnds, opv, ev, cst, cst1, cstL, getT, getH, putT, onL, nxt, argT, cellsOf, PV.one, thn, inBlk, jmp, fldP, ldP, ldC, live, Cells.len, Cells.get, Cells.w, sug, ldv, bin, ops2, sh2, binv, Tk.agg, stC, apC, rdS, apS, mvL, zp, argsP, idx, fillP, toInts, chunks, mkC, ixS, ixA, oidx, slP, sl0, mxF, bltn, frzA, frz, frzL, frz1, pur1, Cells.pur, PV.scal, scal1, runD, rdO, PV.ids, id1, zids, ety, Eff.on, cnd, minb, and1b, ifmax, ifmin, mxv, sugI, strv, w0, w1, w2, wm1, szP, tL_len, wL_len, cfV_len, List.length_map]
              repeat' (first | apply And.intro | intro _)
              any_goals (first | (refine hR68 _ ?_; clear hR68) | (first | omega | (simp only [IntKind.wrap_i64] at *; omega) | (simp_all; done) | (simp_all; omega)))
              try simp (maxSteps := 1000000) [runs, gd, step1, need, evu, un, opnds, opv, ev, cst, cst1, cstL, getT, getH, putT, onL, nxt, argT, cellsOf, PV.one, thn, inBlk, jmp, fldP, ldP, ldC, live, Cells.len, Cells.get, Cells.w, sug, ldv, bin, ops2, sh2, binv, Tk.agg, stC, apC, rdS, apS, mvL, zp, argsP, idx, fillP, toInts, chunks, mkC, ixS, ixA, oidx, slP, sl0, mxF, bltn, frzA, frz, frzL, frz1, pur1, Cells.pur, PV.scal, scal1, runD, rdO, PV.ids, id1, zids, ety, Eff.on, cnd, minb, and1b, ifmax, ifmin, mxv, sugI, strv, w0, w1, w2, wm1, szP, tL_len, wL_len, cfV_len, List.length_map, List.take_succ_cons, List.take_zero, List.drop_succ_cons, List.drop_zero]
              repeat' (first | apply And.intro | intro _)
              any_goals (first | (refine hK66 _ ?_; clear hK66) | (first | omega | (simp only [IntKind.wrap_i64] at *; omega) | (simp_all; done) | (simp_all; omega)))
              have hsx := sx_ok (z := (zF bs s (fnW bs s (tQ bs s (at_, 0) k)) (wQ bs s (fnW bs s (tQ bs s (at_, 0) k)) (q2W bs s (tQ bs s (at_, 0) k)) j))) (n := rN bs (cfQ bs (zF bs s (fnW bs s (tQ bs s (at_, 0) k)) (wQ bs s (fnW bs s (tQ bs s (at_, 0) k)) (q2W bs s (tQ bs s (at_, 0) k)) j)) (q4F bs s (wQ bs s (fnW bs s (tQ bs s (at_, 0) k)) (q2W bs s (tQ bs s (at_, 0) k)) j)) i) (zF bs s (fnW bs s (tQ bs s (at_, 0) k)) (wQ bs s (fnW bs s (tQ bs s (at_, 0) k)) (q2W bs s (tQ bs s (at_, 0) k)) j))) ⟨g7, g8⟩ (rN_bd hp0 (by omega))
              refine swp_draw ty_ok mixed (ms := [0, 1, 0, 0, 0, 16, 56, 0, 248, 508, 1020, 2047, 4095, 8191]) (by kernel_rfl) ?_
              refine runD_cut 10 fun R69 hR69 => ?_
              try simp (maxSteps := 1000000) [runs, gd, step1, need, evu, un, opnds, opv, ev, cst, cst1, cstL, getT, getH, putT, onL, nxt, argT, cellsOf, PV.one, thn, inBlk, jmp, fldP, ldP, ldC, live, Cells.len, Cells.get, Cells.w, sug, ldv, bin, ops2, sh2, binv, Tk.agg, stC, apC, rdS, apS, mvL, zp, argsP, idx, fillP, toInts, chunks, mkC, ixS, ixA, oidx, slP, sl0, mxF, bltn, frzA, frz, frzL, frz1, pur1, Cells.pur, PV.scal, scal1, runD, rdO, PV.ids, id1, zids, ety, Eff.on, cnd, minb, and1b, ifmax, ifmin, mxv, sugI, strv, w0, w1, w2, wm1, szP, tL_len, wL_len, cfV_len, List.length_map, hsx, List.take_succ_cons, List.take_zero, List.drop_succ_cons, List.drop_zero]
              repeat' (first | apply And.intro | intro _)
              any_goals (first | (refine hR69 _ _ _ _ ?_; clear hR69) | (first | omega | (simp only [IntKind.wrap_i64] at *; omega) | (simp_all; done) | (simp_all; omega)))
              refine runD_cut 1 fun R70 hR70 => ?_
              try simp (maxSteps := 1000000) [runs, gd, step1, need, evu, un, opnds, opv, ev, cst, cst1, cstL, getT, getH, putT, onL, nxt, argT, cellsOf, PV.one, thn, inBlk, jmp, fldP, ldP, ldC, live, Cells.len, Cells.get, Cells.w, sug, ldv, bin, ops2, sh2, binv, Tk.agg, stC, apC, rdS, apS, mvL, zp, argsP, idx, fillP, toInts, chunks, mkC, ixS, ixA, oidx, slP, sl0, mxF, bltn, frzA, frz, frzL, frz1, pur1, Cells.pur, PV.scal, scal1, runD, rdO, PV.ids, id1, zids, ety, Eff.on, cnd, minb, and1b, ifmax, ifmin, mxv, sugI, strv, w0, w1, w2, wm1, szP, tL_len, wL_len, cfV_len, List.length_map, hsx, List.take_succ_cons, List.take_zero, List.drop_succ_cons, List.drop_zero]
              repeat' (first | apply And.intro | intro _)
              any_goals (first | (refine Or.inl (hR70 _ _ _ _ ?_); clear hR70) | (first | omega | (simp only [IntKind.wrap_i64] at *; omega) | (simp_all; done) | (simp_all; omega)))
              try simp (maxSteps := 1000000) [runs, gd, step1, need, evu, un, opnds, opv, ev, cst, cst1, cstL, getT, getH, putT, onL, nxt, argT, cellsOf, PV.one, thn, inBlk, jmp, fldP, ldP, ldC, live, Cells.len, Cells.get, Cells.w, sug, ldv, bin, ops2, sh2, binv, Tk.agg, stC, apC, rdS, apS, mvL, zp, argsP, idx, fillP, toInts, chunks, mkC, ixS, ixA, oidx, slP, sl0, mxF, bltn, frzA, frz, frzL, frz1, pur1, Cells.pur, PV.scal, scal1, runD, rdO, PV.ids, id1, zids, ety, Eff.on, cnd, minb, and1b, ifmax, ifmin, mxv, sugI, strv, w0, w1, w2, wm1, szP, tL_len, wL_len, cfV_len, List.length_map, hsx, List.take_succ_cons, List.take_zero, List.drop_succ_cons, List.drop_zero]
              repeat' (first | apply And.intro | intro _)
              any_goals (first | kernel_rfl | (refine hK65 _ ?_; clear hK65) | (first | omega | (simp only [IntKind.wrap_i64] at *; omega) | (simp_all; done) | (simp_all; omega)))
              refine swp_region ty_ok ?_
              try simp (maxSteps := 1000000) [runs, gd, step1, need, evu, un, opnds, opv, ev, cst, cst1, cstL, getT, getH, putT, onL, nxt, argT, cellsOf, PV.one, thn, inBlk, jmp, fldP, ldP, ldC, live, Cells.len, Cells.get, Cells.w, sug, ldv, bin, ops2, sh2, binv, Tk.agg, stC, apC, rdS, apS, mvL, zp, argsP, idx, fillP, toInts, chunks, mkC, ixS, ixA, oidx, slP, sl0, mxF, bltn, frzA, frz, frzL, frz1, pur1, Cells.pur, PV.scal, scal1, runD, rdO, PV.ids, id1, zids, ety, Eff.on, cnd, minb, and1b, ifmax, ifmin, mxv, sugI, strv, w0, w1, w2, wm1, szP, tL_len, wL_len, cfV_len, List.length_map]
              repeat' apply And.intro
              any_goals (try omega)
              refine hL61 _ ⟨[(7, .ptr 2 0 0 1), (8, .ptr 3 0 0 1), (10, .fn 65 [.ptr 3 0 0 1, .ptr 0 0 0 1, .ptr 2 0 0 1]), (11, .ptr 4 0 0 1), (32, .int .i64 (winI s sh m g)), (33, .int .i64 (k : Nat)), (6, .sl 5 0 k k), (12, .bool (tO bs s (at_, 0) k || wO bs s (fnW bs s (tQ bs s (at_, 0) k)) (q2W bs s (tQ bs s (at_, 0) k)) j)), (13, .sl 6 0 j j), (15, .bool (fnW bs s (tQ bs s (at_, 0) k))), (46, .int .i64 (mW bs s (tQ bs s (at_, 0) k))), (47, .int .i64 (j : Nat)), (16, .ptr 87 0 0 1), (17, .int .i64 (nrF bs s (wQ bs s (fnW bs s (tQ bs s (at_, 0) k)) (q2W bs s (tQ bs s (at_, 0) k)) j))), (18, .int .i64 (zF bs s (fnW bs s (tQ bs s (at_, 0) k)) (wQ bs s (fnW bs s (tQ bs s (at_, 0) k)) (q2W bs s (tQ bs s (at_, 0) k)) j))), (80, .int .i64 (oF bs s (wQ bs s (fnW bs s (tQ bs s (at_, 0) k)) (q2W bs s (tQ bs s (at_, 0) k)) j))), (81, .int .i64 ((i + 1) : Nat))], [(0, some ⟨.rows 1 [[.ro (.ints .u8 bs)]], true, 45⟩), (1, some ⟨.rows 4 [[.int .u8 s, .int .u8 sh, .int .i64 m, .ro (.ints .i64 g)]], true, 24⟩), (2, some ⟨.rows 1 [[.int .i64 (cfQ bs (zF bs s (fnW bs s (tQ bs s (at_, 0) k)) (wQ bs s (fnW bs s (tQ bs s (at_, 0) k)) (q2W bs s (tQ bs s (at_, 0) k)) j)) (q4F bs s (wQ bs s (fnW bs s (tQ bs s (at_, 0) k)) (q2W bs s (tQ bs s (at_, 0) k)) j)) (i + 1)).1]], true, 3⟩), (3, some ⟨.rows 1 [[.int .i64 (cfQ bs (zF bs s (fnW bs s (tQ bs s (at_, 0) k)) (wQ bs s (fnW bs s (tQ bs s (at_, 0) k)) (q2W bs s (tQ bs s (at_, 0) k)) j)) (q4F bs s (wQ bs s (fnW bs s (tQ bs s (at_, 0) k)) (q2W bs s (tQ bs s (at_, 0) k)) j)) (i + 1)).2]], true, 41⟩), (4, some ⟨.rows 5 [[.int .i64 (sz0 s), .int .i64 (sz1 s), .int .i64 (sz2 s), .int .i64 (sz3 s), .int .i64 (sz4 s)]], true, 86⟩), (5, some ⟨.rows 1 ((tL bs s (at_, 0) k).map fun w => [.ro (.rows 5 (w.map Fl.row))]), false, 33⟩), (6, some ⟨.rows 5 ((wL bs s (fnW bs s (tQ bs s (at_, 0) k)) (q2W bs s (tQ bs s (at_, 0) k)) j).map Fl.row), false, 35⟩), (87, some ⟨.rows 5 [[.int .i64 (rN bs (wQ bs s (fnW bs s (tQ bs s (at_, 0) k)) (q2W bs s (tQ bs s (at_, 0) k)) j) (sz1 s)), .int .i64 (oF bs s (wQ bs s (fnW bs s (tQ bs s (at_, 0) k)) (q2W bs s (tQ bs s (at_, 0) k)) j)), .bool (decide (dnF bs s (wQ bs s (fnW bs s (tQ bs s (at_, 0) k)) (q2W bs s (tQ bs s (at_, 0) k)) j) = 1)), .bool (fnW bs s (tQ bs s (at_, 0) k)), .sl 103 0 (i + 1) (i + 1)]], true, 35⟩), (103, some ⟨.ints .i64 (cfV bs (zF bs s (fnW bs s (tQ bs s (at_, 0) k)) (wQ bs s (fnW bs s (tQ bs s (at_, 0) k)) (q2W bs s (tQ bs s (at_, 0) k)) j)) (q4F bs s (wQ bs s (fnW bs s (tQ bs s (at_, 0) k)) (q2W bs s (tQ bs s (at_, 0) k)) j)) (i + 1)), false, 3⟩)], 104⟩ _ ?_ ⟨(i + 1), by (first | omega | (simp only [IntKind.wrap_i64] at *; omega) | (simp_all; done) | (simp_all; omega)), rfl, rfl⟩ ⟨by simp [getT, PV.lo, lo1, hiw], by simp [getH, Blk.lo, Cells.lo, lo1, cfQ, cfV], rfl, by omega⟩
              omega
            · clear hC64
              try simp at hc64
              refine swp_exit ?_
              simp [thn, inBlk]
              refine hK59 _ ?_; clear hK59
              refine swp_region ty_ok ?_
              refine runs_cut 9 fun R72 hR72 => ?_
              try simp (maxSteps := 1000000) [runs, gd, step1, need, evu, un, opnds, opv, ev, cst, cst1, cstL, getT, getH, putT, onL, nxt, argT, cellsOf, PV.one, thn, inBlk, jmp, fldP, ldP, ldC, live, Cells.len, Cells.get, Cells.w, sug, ldv, bin, ops2, sh2, binv, Tk.agg, stC, apC, rdS, apS, mvL, zp, argsP, idx, fillP, toInts, chunks, mkC, ixS, ixA, oidx, slP, sl0, mxF, bltn, frzA, frz, frzL, frz1, pur1, Cells.pur, PV.scal, scal1, runD, rdO, PV.ids, id1, zids, ety, Eff.on, cnd, minb, and1b, ifmax, ifmin, mxv, sugI, strv, w0, w1, w2, wm1, szP, tL_len, wL_len, cfV_len, List.length_map, hzw1, List.take_succ_cons, List.take_zero, List.drop_succ_cons, List.drop_zero]
              repeat' (first | apply And.intro | intro _)
              any_goals (first | (refine hR72 _ ?_; clear hR72) | (first | omega | (simp only [IntKind.wrap_i64] at *; omega) | (simp_all; done) | (simp_all; omega)))
              refine runs_cut 1 fun R73 hR73 => ?_
              try simp (maxSteps := 1000000) [runs, gd, step1, need, evu, un, opnds, opv, ev, cst, cst1, cstL, getT, getH, putT, onL, nxt, argT, cellsOf, PV.one, thn, inBlk, jmp, fldP, ldP, ldC, live, Cells.len, Cells.get, Cells.w, sug, ldv, bin, ops2, sh2, binv, Tk.agg, stC, apC, rdS, apS, mvL, zp, argsP, idx, fillP, toInts, chunks, mkC, ixS, ixA, oidx, slP, sl0, mxF, bltn, frzA, frz, frzL, frz1, pur1, Cells.pur, PV.scal, scal1, runD, rdO, PV.ids, id1, zids, ety, Eff.on, cnd, minb, and1b, ifmax, ifmin, mxv, sugI, strv, w0, w1, w2, wm1, szP, tL_len, wL_len, cfV_len, List.length_map, hzw1, List.take_succ_cons, List.take_zero, List.drop_succ_cons, List.drop_zero]
              first | refine .inl ⟨_, fun hb => .inl ⟨tnsbits_fit_ok (cfV bs (zF bs s (fnW bs s (tQ bs s (at_, 0) k)) (wQ bs s (fnW bs s (tQ bs s (at_, 0) k)) (q2W bs s (tQ bs s (at_, 0) k)) j)) (q4F bs s (wQ bs s (fnW bs s (tQ bs s (at_, 0) k)) (q2W bs s (tQ bs s (at_, 0) k)) j)) i) ((zF bs s (fnW bs s (tQ bs s (at_, 0) k)) (wQ bs s (fnW bs s (tQ bs s (at_, 0) k)) (q2W bs s (tQ bs s (at_, 0) k)) j)) - 1) (by omega) (by rw [cfV_len]; omega), rfl⟩, ?_⟩ | refine .inl ⟨_, .inl ⟨tnsbits_fit_ok (cfV bs (zF bs s (fnW bs s (tQ bs s (at_, 0) k)) (wQ bs s (fnW bs s (tQ bs s (at_, 0) k)) (q2W bs s (tQ bs s (at_, 0) k)) j)) (q4F bs s (wQ bs s (fnW bs s (tQ bs s (at_, 0) k)) (q2W bs s (tQ bs s (at_, 0) k)) j)) i) ((zF bs s (fnW bs s (tQ bs s (at_, 0) k)) (wQ bs s (fnW bs s (tQ bs s (at_, 0) k)) (q2W bs s (tQ bs s (at_, 0) k)) j)) - 1) (by omega) (by rw [cfV_len]; omega), rfl⟩, ?_⟩ | refine .inl ⟨_, fun hb => .inl (tnsbits_fit_ok (cfV bs (zF bs s (fnW bs s (tQ bs s (at_, 0) k)) (wQ bs s (fnW bs s (tQ bs s (at_, 0) k)) (q2W bs s (tQ bs s (at_, 0) k)) j)) (q4F bs s (wQ bs s (fnW bs s (tQ bs s (at_, 0) k)) (q2W bs s (tQ bs s (at_, 0) k)) j)) i) ((zF bs s (fnW bs s (tQ bs s (at_, 0) k)) (wQ bs s (fnW bs s (tQ bs s (at_, 0) k)) (q2W bs s (tQ bs s (at_, 0) k)) j)) - 1) (by omega) (by rw [cfV_len]; omega)), ?_⟩ | refine .inl ⟨_, .inl (tnsbits_fit_ok (cfV bs (zF bs s (fnW bs s (tQ bs s (at_, 0) k)) (wQ bs s (fnW bs s (tQ bs s (at_, 0) k)) (q2W bs s (tQ bs s (at_, 0) k)) j)) (q4F bs s (wQ bs s (fnW bs s (tQ bs s (at_, 0) k)) (q2W bs s (tQ bs s (at_, 0) k)) j)) i) ((zF bs s (fnW bs s (tQ bs s (at_, 0) k)) (wQ bs s (fnW bs s (tQ bs s (at_, 0) k)) (q2W bs s (tQ bs s (at_, 0) k)) j)) - 1) (by omega) (by rw [cfV_len]; omega)), ?_⟩ | refine .inl ⟨_, by (intros; exact Or.inl (tnsbits_fit_ok (cfV bs (zF bs s (fnW bs s (tQ bs s (at_, 0) k)) (wQ bs s (fnW bs s (tQ bs s (at_, 0) k)) (q2W bs s (tQ bs s (at_, 0) k)) j)) (q4F bs s (wQ bs s (fnW bs s (tQ bs s (at_, 0) k)) (q2W bs s (tQ bs s (at_, 0) k)) j)) i) ((zF bs s (fnW bs s (tQ bs s (at_, 0) k)) (wQ bs s (fnW bs s (tQ bs s (at_, 0) k)) (q2W bs s (tQ bs s (at_, 0) k)) j)) - 1) (by omega) (by rw [cfV_len]; omega))), ?_⟩ | refine .inl ⟨_, by (intros; exact Or.inl ⟨tnsbits_fit_ok (cfV bs (zF bs s (fnW bs s (tQ bs s (at_, 0) k)) (wQ bs s (fnW bs s (tQ bs s (at_, 0) k)) (q2W bs s (tQ bs s (at_, 0) k)) j)) (q4F bs s (wQ bs s (fnW bs s (tQ bs s (at_, 0) k)) (q2W bs s (tQ bs s (at_, 0) k)) j)) i) ((zF bs s (fnW bs s (tQ bs s (at_, 0) k)) (wQ bs s (fnW bs s (tQ bs s (at_, 0) k)) (q2W bs s (tQ bs s (at_, 0) k)) j)) - 1) (by omega) (by rw [cfV_len]; omega), rfl⟩), ?_⟩ | refine .inl ⟨_, fun hb => .inl ⟨_, tnsbits_fit_ok (cfV bs (zF bs s (fnW bs s (tQ bs s (at_, 0) k)) (wQ bs s (fnW bs s (tQ bs s (at_, 0) k)) (q2W bs s (tQ bs s (at_, 0) k)) j)) (q4F bs s (wQ bs s (fnW bs s (tQ bs s (at_, 0) k)) (q2W bs s (tQ bs s (at_, 0) k)) j)) i) ((zF bs s (fnW bs s (tQ bs s (at_, 0) k)) (wQ bs s (fnW bs s (tQ bs s (at_, 0) k)) (q2W bs s (tQ bs s (at_, 0) k)) j)) - 1) (by omega) (by rw [cfV_len]; omega), by (try simp [runs, gd, step1, need, evu, un, opnds, opv, ev, cst, cst1, cstL, getT, getH, putT, onL, nxt, argT, cellsOf, PV.one, thn, inBlk, jmp, fldP, ldP, ldC, live, Cells.len, Cells.get, Cells.w, sug, ldv, bin, ops2, sh2, binv, Tk.agg, stC, apC, rdS, apS, mvL, zp, argsP, idx, fillP, toInts, chunks, mkC, ixS, ixA, oidx, slP, sl0, mxF, bltn, frzA, frz, frzL, frz1, pur1, Cells.pur, PV.scal, scal1, runD, rdO, PV.ids, id1, zids, ety, Eff.on, cnd, minb, and1b, ifmax, ifmin, mxv, sugI, strv, w0, w1, w2, wm1]); exact ⟨rfl, rfl⟩⟩, ?_⟩
              repeat' (first | apply And.intro | intro _)
              any_goals (first | (refine hR73 _ ?_; clear hR73) | (first | omega | (simp only [IntKind.wrap_i64] at *; omega) | (simp_all; done) | (simp_all; omega)))
              try simp (maxSteps := 1000000) [runs, gd, step1, need, evu, un, opnds, opv, ev, cst, cst1, cstL, getT, getH, putT, onL, nxt, argT, cellsOf, PV.one, thn, inBlk, jmp, fldP, ldP, ldC, live, Cells.len, Cells.get, Cells.w, sug, ldv, bin, ops2, sh2, binv, Tk.agg, stC, apC, rdS, apS, mvL, zp, argsP, idx, fillP, toInts, chunks, mkC, ixS, ixA, oidx, slP, sl0, mxF, bltn, frzA, frz, frzL, frz1, pur1, Cells.pur, PV.scal, scal1, runD, rdO, PV.ids, id1, zids, ety, Eff.on, cnd, minb, and1b, ifmax, ifmin, mxv, sugI, strv, w0, w1, w2, wm1, szP, tL_len, wL_len, cfV_len, List.length_map, hzw1, List.take_succ_cons, List.take_zero, List.drop_succ_cons, List.drop_zero]
              repeat' (first | apply And.intro | intro _)
              any_goals (first | (refine hK47 _ ?_; clear hK47) | (first | omega | (simp only [IntKind.wrap_i64] at *; omega) | (simp_all; done) | (simp_all; omega)))
              refine swp_region ty_ok ?_
              refine runs_cut 2 fun R74 hR74 => ?_
              try simp (maxSteps := 1000000) [runs, gd, step1, need, evu, un, opnds, opv, ev, cst, cst1, cstL, getT, getH, putT, onL, nxt, argT, cellsOf, PV.one, thn, inBlk, jmp, fldP, ldP, ldC, live, Cells.len, Cells.get, Cells.w, sug, ldv, bin, ops2, sh2, binv, Tk.agg, stC, apC, rdS, apS, mvL, zp, argsP, idx, fillP, toInts, chunks, mkC, ixS, ixA, oidx, slP, sl0, mxF, bltn, frzA, frz, frzL, frz1, pur1, Cells.pur, PV.scal, scal1, runD, rdO, PV.ids, id1, zids, ety, Eff.on, cnd, minb, and1b, ifmax, ifmin, mxv, sugI, strv, w0, w1, w2, wm1, szP, tL_len, wL_len, cfV_len, List.length_map, List.take_succ_cons, List.take_zero, List.drop_succ_cons, List.drop_zero]
              repeat' (first | apply And.intro | intro _)
              any_goals (first | (refine hR74 _ ?_; clear hR74) | (first | omega | (simp only [IntKind.wrap_i64] at *; omega) | (simp_all; done) | (simp_all; omega)))
              refine runs_cut 1 fun R75 hR75 => ?_
              try simp (maxSteps := 1000000) [runs, gd, step1, need, evu, un, opnds, opv, ev, cst, cst1, cstL, getT, getH, putT, onL, nxt, argT, cellsOf, PV.one, thn, inBlk, jmp, fldP, ldP, ldC, live, Cells.len, Cells.get, Cells.w, sug, ldv, bin, ops2, sh2, binv, Tk.agg, stC, apC, rdS, apS, mvL, zp, argsP, idx, fillP, toInts, chunks, mkC, ixS, ixA, oidx, slP, sl0, mxF, bltn, frzA, frz, frzL, frz1, pur1, Cells.pur, PV.scal, scal1, runD, rdO, PV.ids, id1, zids, ety, Eff.on, cnd, minb, and1b, ifmax, ifmin, mxv, sugI, strv, w0, w1, w2, wm1, szP, tL_len, wL_len, cfV_len, List.length_map, List.take_succ_cons, List.take_zero, List.drop_succ_cons, List.drop_zero]
              repeat' (first | apply And.intro | intro _)
              any_goals (first | (refine Or.inl (hR75 _ ?_); clear hR75) | (first | omega | (simp only [IntKind.wrap_i64] at *; omega) | (simp_all; done) | (simp_all; omega)))
              try simp (maxSteps := 1000000) [runs, gd, step1, need, evu, un, opnds, opv, ev, cst, cst1, cstL, getT, getH, putT, onL, nxt, argT, cellsOf, PV.one, thn, inBlk, jmp, fldP, ldP, ldC, live, Cells.len, Cells.get, Cells.w, sug, ldv, bin, ops2, sh2, binv, Tk.agg, stC, apC, rdS, apS, mvL, zp, argsP, idx, fillP, toInts, chunks, mkC, ixS, ixA, oidx, slP, sl0, mxF, bltn, frzA, frz, frzL, frz1, pur1, Cells.pur, PV.scal, scal1, runD, rdO, PV.ids, id1, zids, ety, Eff.on, cnd, minb, and1b, ifmax, ifmin, mxv, sugI, strv, w0, w1, w2, wm1, szP, tL_len, wL_len, cfV_len, List.length_map, List.take_succ_cons, List.take_zero, List.drop_succ_cons, List.drop_zero]
              repeat' (first | apply And.intro | intro _)
              any_goals (first | (refine hK36 _ ?_; clear hK36) | (first | omega | (simp only [IntKind.wrap_i64] at *; omega) | (simp_all; done) | (simp_all; omega)))
              refine swp_region ty_ok ?_
              try simp (maxSteps := 1000000) [runs, gd, step1, need, evu, un, opnds, opv, ev, cst, cst1, cstL, getT, getH, putT, onL, nxt, argT, cellsOf, PV.one, thn, inBlk, jmp, fldP, ldP, ldC, live, Cells.len, Cells.get, Cells.w, sug, ldv, bin, ops2, sh2, binv, Tk.agg, stC, apC, rdS, apS, mvL, zp, argsP, idx, fillP, toInts, chunks, mkC, ixS, ixA, oidx, slP, sl0, mxF, bltn, frzA, frz, frzL, frz1, pur1, Cells.pur, PV.scal, scal1, runD, rdO, PV.ids, id1, zids, ety, Eff.on, cnd, minb, and1b, ifmax, ifmin, mxv, sugI, strv, w0, w1, w2, wm1, szP, tL_len, wL_len, cfV_len, List.length_map]
              repeat' apply And.intro
              any_goals (try omega)
              refine hL32 _ ⟨[(7, .ptr 2 0 0 1), (8, .ptr 3 0 0 1), (10, .fn 65 [.ptr 3 0 0 1, .ptr 0 0 0 1, .ptr 2 0 0 1]), (11, .ptr 4 0 0 1), (32, .int .i64 (winI s sh m g)), (33, .int .i64 (k : Nat)), (6, .sl 5 0 k k), (12, .bool (tO bs s (at_, 0) k || wO bs s (fnW bs s (tQ bs s (at_, 0) k)) (q2W bs s (tQ bs s (at_, 0) k)) (j + 1))), (13, .sl 6 0 (j + 1) (j + 1)), (15, .bool (fnW bs s (tQ bs s (at_, 0) k))), (46, .int .i64 (mW bs s (tQ bs s (at_, 0) k))), (47, .int .i64 ((j + 1) : Nat))], [(0, some ⟨.rows 1 [[.ro (.ints .u8 bs)]], true, 45⟩), (1, some ⟨.rows 4 [[.int .u8 s, .int .u8 sh, .int .i64 m, .ro (.ints .i64 g)]], true, 24⟩), (2, some ⟨.rows 1 [[.int .i64 (wQ bs s (fnW bs s (tQ bs s (at_, 0) k)) (q2W bs s (tQ bs s (at_, 0) k)) (j + 1)).1]], true, 3⟩), (3, some ⟨.rows 1 [[.int .i64 (wQ bs s (fnW bs s (tQ bs s (at_, 0) k)) (q2W bs s (tQ bs s (at_, 0) k)) (j + 1)).2]], true, 41⟩), (4, some ⟨.rows 5 [[.int .i64 (sz0 s), .int .i64 (sz1 s), .int .i64 (sz2 s), .int .i64 (sz3 s), .int .i64 (sz4 s)]], true, 86⟩), (5, some ⟨.rows 1 ((tL bs s (at_, 0) k).map fun w => [.ro (.rows 5 (w.map Fl.row))]), false, 33⟩), (6, some ⟨.rows 5 ((wL bs s (fnW bs s (tQ bs s (at_, 0) k)) (q2W bs s (tQ bs s (at_, 0) k)) (j + 1)).map Fl.row), false, 35⟩)], 7⟩ _ ?_ ⟨(j + 1), by omega, by (show (wS bs s (fnW bs s (tQ bs s (at_, 0) k)) (q2W bs s (tQ bs s (at_, 0) k)) j || stF bs s (wQ bs s (fnW bs s (tQ bs s (at_, 0) k)) (q2W bs s (tQ bs s (at_, 0) k)) j)) = false; rw [hst, Bool.or_false]; assumption), rfl, rfl⟩ ⟨by (first | (have hio : i = (oF bs s (wQ bs s (fnW bs s (tQ bs s (at_, 0) k)) (q2W bs s (tQ bs s (at_, 0) k)) j)).toNat := (by omega); have hp1 : 0 < oF bs s (wQ bs s (fnW bs s (tQ bs s (at_, 0) k)) (q2W bs s (tQ bs s (at_, 0) k)) j) := (by omega); have hod : odF bs s (fnW bs s (tQ bs s (at_, 0) k)) (wQ bs s (fnW bs s (tQ bs s (at_, 0) k)) (q2W bs s (tQ bs s (at_, 0) k)) j) = (decide (nrF bs s (wQ bs s (fnW bs s (tQ bs s (at_, 0) k)) (q2W bs s (tQ bs s (at_, 0) k)) j) = 0) && fitB (cfV bs (zF bs s (fnW bs s (tQ bs s (at_, 0) k)) (wQ bs s (fnW bs s (tQ bs s (at_, 0) k)) (q2W bs s (tQ bs s (at_, 0) k)) j)) (q4F bs s (wQ bs s (fnW bs s (tQ bs s (at_, 0) k)) (q2W bs s (tQ bs s (at_, 0) k)) j)) i) ((zF bs s (fnW bs s (tQ bs s (at_, 0) k)) (wQ bs s (fnW bs s (tQ bs s (at_, 0) k)) (q2W bs s (tQ bs s (at_, 0) k)) j)) - 1)) := (by rw [odF, if_pos hp1, coF, hio]); simp [getT, PV.lo, lo1, hjw, wO, hod, Bool.or_assoc]) | (have hp1 : ¬ 0 < oF bs s (wQ bs s (fnW bs s (tQ bs s (at_, 0) k)) (q2W bs s (tQ bs s (at_, 0) k)) j) := (by omega); have hod : odF bs s (fnW bs s (tQ bs s (at_, 0) k)) (wQ bs s (fnW bs s (tQ bs s (at_, 0) k)) (q2W bs s (tQ bs s (at_, 0) k)) j) = false := (by rw [odF, if_neg hp1]); simp [getT, PV.lo, lo1, hjw, wO, hod])), by (first | (have hio : i = (oF bs s (wQ bs s (fnW bs s (tQ bs s (at_, 0) k)) (q2W bs s (tQ bs s (at_, 0) k)) j)).toNat := (by omega); have hp1 : 0 < oF bs s (wQ bs s (fnW bs s (tQ bs s (at_, 0) k)) (q2W bs s (tQ bs s (at_, 0) k)) j) := (by omega); have hqf : qF bs s (fnW bs s (tQ bs s (at_, 0) k)) (wQ bs s (fnW bs s (tQ bs s (at_, 0) k)) (q2W bs s (tQ bs s (at_, 0) k)) j) = cfQ bs (zF bs s (fnW bs s (tQ bs s (at_, 0) k)) (wQ bs s (fnW bs s (tQ bs s (at_, 0) k)) (q2W bs s (tQ bs s (at_, 0) k)) j)) (q4F bs s (wQ bs s (fnW bs s (tQ bs s (at_, 0) k)) (q2W bs s (tQ bs s (at_, 0) k)) j)) i := (by rw [qF, if_pos hp1, hio]); have hff : fF bs s (fnW bs s (tQ bs s (at_, 0) k)) (wQ bs s (fnW bs s (tQ bs s (at_, 0) k)) (q2W bs s (tQ bs s (at_, 0) k)) j) = ⟨rN bs (wQ bs s (fnW bs s (tQ bs s (at_, 0) k)) (q2W bs s (tQ bs s (at_, 0) k)) j) (sz1 s), oF bs s (wQ bs s (fnW bs s (tQ bs s (at_, 0) k)) (q2W bs s (tQ bs s (at_, 0) k)) j), decide (dnF bs s (wQ bs s (fnW bs s (tQ bs s (at_, 0) k)) (q2W bs s (tQ bs s (at_, 0) k)) j) = 1), (fnW bs s (tQ bs s (at_, 0) k)), cfV bs (zF bs s (fnW bs s (tQ bs s (at_, 0) k)) (wQ bs s (fnW bs s (tQ bs s (at_, 0) k)) (q2W bs s (tQ bs s (at_, 0) k)) j)) (q4F bs s (wQ bs s (fnW bs s (tQ bs s (at_, 0) k)) (q2W bs s (tQ bs s (at_, 0) k)) j)) i⟩ := (by rw [fF, if_pos hp1, coF, hio]); simp [getH, Blk.lo, Cells.lo, lo1, wQ, wL, hqf, hff, Fl.row]) | (have hp1 : ¬ 0 < oF bs s (wQ bs s (fnW bs s (tQ bs s (at_, 0) k)) (q2W bs s (tQ bs s (at_, 0) k)) j) := (by omega); have hqf : qF bs s (fnW bs s (tQ bs s (at_, 0) k)) (wQ bs s (fnW bs s (tQ bs s (at_, 0) k)) (q2W bs s (tQ bs s (at_, 0) k)) j) = q2F bs s (wQ bs s (fnW bs s (tQ bs s (at_, 0) k)) (q2W bs s (tQ bs s (at_, 0) k)) j) := (by rw [qF, if_neg hp1]); have hff : fF bs s (fnW bs s (tQ bs s (at_, 0) k)) (wQ bs s (fnW bs s (tQ bs s (at_, 0) k)) (q2W bs s (tQ bs s (at_, 0) k)) j) = ⟨rN bs (wQ bs s (fnW bs s (tQ bs s (at_, 0) k)) (q2W bs s (tQ bs s (at_, 0) k)) j) (sz1 s), oF bs s (wQ bs s (fnW bs s (tQ bs s (at_, 0) k)) (q2W bs s (tQ bs s (at_, 0) k)) j), false, (fnW bs s (tQ bs s (at_, 0) k)), []⟩ := (by rw [fF, if_neg hp1]); simp [getH, Blk.lo, Cells.lo, lo1, wQ, wL, hqf, hff, Fl.row])), rfl, by omega⟩
              omega
          · clear hC49
            try simp at hc49
            refine swp_skip ?_
            simp only [thn, inBlk]
            refine hK47 _ ?_; clear hK47
            refine swp_region ty_ok ?_
            refine runs_cut 2 fun R76 hR76 => ?_
            try simp (maxSteps := 1000000) [runs, gd, step1, need, evu, un, opnds, opv, ev, cst, cst1, cstL, getT, getH, putT, onL, nxt, argT, cellsOf, PV.one, thn, inBlk, jmp, fldP, ldP, ldC, live, Cells.len, Cells.get, Cells.w, sug, ldv, bin, ops2, sh2, binv, Tk.agg, stC, apC, rdS, apS, mvL, zp, argsP, idx, fillP, toInts, chunks, mkC, ixS, ixA, oidx, slP, sl0, mxF, bltn, frzA, frz, frzL, frz1, pur1, Cells.pur, PV.scal, scal1, runD, rdO, PV.ids, id1, zids, ety, Eff.on, cnd, minb, and1b, ifmax, ifmin, mxv, sugI, strv, w0, w1, w2, wm1, szP, tL_len, wL_len, cfV_len, List.length_map, List.take_succ_cons, List.take_zero, List.drop_succ_cons, List.drop_zero]
            repeat' (first | apply And.intro | intro _)
            any_goals (first | (refine hR76 _ ?_; clear hR76) | (first | omega | (simp only [IntKind.wrap_i64] at *; omega) | (simp_all; done) | (simp_all; omega)))
            refine runs_cut 1 fun R77 hR77 => ?_
            try simp (maxSteps := 1000000) [runs, gd, step1, need, evu, un, opnds, opv, ev, cst, cst1, cstL, getT, getH, putT, onL, nxt, argT, cellsOf, PV.one, thn, inBlk, jmp, fldP, ldP, ldC, live, Cells.len, Cells.get, Cells.w, sug, ldv, bin, ops2, sh2, binv, Tk.agg, stC, apC, rdS, apS, mvL, zp, argsP, idx, fillP, toInts, chunks, mkC, ixS, ixA, oidx, slP, sl0, mxF, bltn, frzA, frz, frzL, frz1, pur1, Cells.pur, PV.scal, scal1, runD, rdO, PV.ids, id1, zids, ety, Eff.on, cnd, minb, and1b, ifmax, ifmin, mxv, sugI, strv, w0, w1, w2, wm1, szP, tL_len, wL_len, cfV_len, List.length_map, List.take_succ_cons, List.take_zero, List.drop_succ_cons, List.drop_zero]
            repeat' (first | apply And.intro | intro _)
            any_goals (first | (refine Or.inl (hR77 _ ?_); clear hR77) | (first | omega | (simp only [IntKind.wrap_i64] at *; omega) | (simp_all; done) | (simp_all; omega)))
            try simp (maxSteps := 1000000) [runs, gd, step1, need, evu, un, opnds, opv, ev, cst, cst1, cstL, getT, getH, putT, onL, nxt, argT, cellsOf, PV.one, thn, inBlk, jmp, fldP, ldP, ldC, live, Cells.len, Cells.get, Cells.w, sug, ldv, bin, ops2, sh2, binv, Tk.agg, stC, apC, rdS, apS, mvL, zp, argsP, idx, fillP, toInts, chunks, mkC, ixS, ixA, oidx, slP, sl0, mxF, bltn, frzA, frz, frzL, frz1, pur1, Cells.pur, PV.scal, scal1, runD, rdO, PV.ids, id1, zids, ety, Eff.on, cnd, minb, and1b, ifmax, ifmin, mxv, sugI, strv, w0, w1, w2, wm1, szP, tL_len, wL_len, cfV_len, List.length_map, List.take_succ_cons, List.take_zero, List.drop_succ_cons, List.drop_zero]
            repeat' (first | apply And.intro | intro _)
            any_goals (first | (refine hK36 _ ?_; clear hK36) | (first | omega | (simp only [IntKind.wrap_i64] at *; omega) | (simp_all; done) | (simp_all; omega)))
            refine swp_region ty_ok ?_
            try simp (maxSteps := 1000000) [runs, gd, step1, need, evu, un, opnds, opv, ev, cst, cst1, cstL, getT, getH, putT, onL, nxt, argT, cellsOf, PV.one, thn, inBlk, jmp, fldP, ldP, ldC, live, Cells.len, Cells.get, Cells.w, sug, ldv, bin, ops2, sh2, binv, Tk.agg, stC, apC, rdS, apS, mvL, zp, argsP, idx, fillP, toInts, chunks, mkC, ixS, ixA, oidx, slP, sl0, mxF, bltn, frzA, frz, frzL, frz1, pur1, Cells.pur, PV.scal, scal1, runD, rdO, PV.ids, id1, zids, ety, Eff.on, cnd, minb, and1b, ifmax, ifmin, mxv, sugI, strv, w0, w1, w2, wm1, szP, tL_len, wL_len, cfV_len, List.length_map]
            repeat' apply And.intro
            any_goals (try omega)
            refine hL32 _ ⟨[(7, .ptr 2 0 0 1), (8, .ptr 3 0 0 1), (10, .fn 65 [.ptr 3 0 0 1, .ptr 0 0 0 1, .ptr 2 0 0 1]), (11, .ptr 4 0 0 1), (32, .int .i64 (winI s sh m g)), (33, .int .i64 (k : Nat)), (6, .sl 5 0 k k), (12, .bool (tO bs s (at_, 0) k || wO bs s (fnW bs s (tQ bs s (at_, 0) k)) (q2W bs s (tQ bs s (at_, 0) k)) (j + 1))), (13, .sl 6 0 (j + 1) (j + 1)), (15, .bool (fnW bs s (tQ bs s (at_, 0) k))), (46, .int .i64 (mW bs s (tQ bs s (at_, 0) k))), (47, .int .i64 ((j + 1) : Nat))], [(0, some ⟨.rows 1 [[.ro (.ints .u8 bs)]], true, 45⟩), (1, some ⟨.rows 4 [[.int .u8 s, .int .u8 sh, .int .i64 m, .ro (.ints .i64 g)]], true, 24⟩), (2, some ⟨.rows 1 [[.int .i64 (wQ bs s (fnW bs s (tQ bs s (at_, 0) k)) (q2W bs s (tQ bs s (at_, 0) k)) (j + 1)).1]], true, 3⟩), (3, some ⟨.rows 1 [[.int .i64 (wQ bs s (fnW bs s (tQ bs s (at_, 0) k)) (q2W bs s (tQ bs s (at_, 0) k)) (j + 1)).2]], true, 41⟩), (4, some ⟨.rows 5 [[.int .i64 (sz0 s), .int .i64 (sz1 s), .int .i64 (sz2 s), .int .i64 (sz3 s), .int .i64 (sz4 s)]], true, 86⟩), (5, some ⟨.rows 1 ((tL bs s (at_, 0) k).map fun w => [.ro (.rows 5 (w.map Fl.row))]), false, 33⟩), (6, some ⟨.rows 5 ((wL bs s (fnW bs s (tQ bs s (at_, 0) k)) (q2W bs s (tQ bs s (at_, 0) k)) (j + 1)).map Fl.row), false, 35⟩)], 7⟩ _ ?_ ⟨(j + 1), by omega, by (show (wS bs s (fnW bs s (tQ bs s (at_, 0) k)) (q2W bs s (tQ bs s (at_, 0) k)) j || stF bs s (wQ bs s (fnW bs s (tQ bs s (at_, 0) k)) (q2W bs s (tQ bs s (at_, 0) k)) j)) = false; rw [hst, Bool.or_false]; assumption), rfl, rfl⟩ ⟨by (first | (have hio : i = (oF bs s (wQ bs s (fnW bs s (tQ bs s (at_, 0) k)) (q2W bs s (tQ bs s (at_, 0) k)) j)).toNat := (by omega); have hp1 : 0 < oF bs s (wQ bs s (fnW bs s (tQ bs s (at_, 0) k)) (q2W bs s (tQ bs s (at_, 0) k)) j) := (by omega); have hod : odF bs s (fnW bs s (tQ bs s (at_, 0) k)) (wQ bs s (fnW bs s (tQ bs s (at_, 0) k)) (q2W bs s (tQ bs s (at_, 0) k)) j) = (decide (nrF bs s (wQ bs s (fnW bs s (tQ bs s (at_, 0) k)) (q2W bs s (tQ bs s (at_, 0) k)) j) = 0) && fitB (cfV bs (zF bs s (fnW bs s (tQ bs s (at_, 0) k)) (wQ bs s (fnW bs s (tQ bs s (at_, 0) k)) (q2W bs s (tQ bs s (at_, 0) k)) j)) (q4F bs s (wQ bs s (fnW bs s (tQ bs s (at_, 0) k)) (q2W bs s (tQ bs s (at_, 0) k)) j)) i) ((zF bs s (fnW bs s (tQ bs s (at_, 0) k)) (wQ bs s (fnW bs s (tQ bs s (at_, 0) k)) (q2W bs s (tQ bs s (at_, 0) k)) j)) - 1)) := (by rw [odF, if_pos hp1, coF, hio]); simp [getT, PV.lo, lo1, hjw, wO, hod, Bool.or_assoc]) | (have hp1 : ¬ 0 < oF bs s (wQ bs s (fnW bs s (tQ bs s (at_, 0) k)) (q2W bs s (tQ bs s (at_, 0) k)) j) := (by omega); have hod : odF bs s (fnW bs s (tQ bs s (at_, 0) k)) (wQ bs s (fnW bs s (tQ bs s (at_, 0) k)) (q2W bs s (tQ bs s (at_, 0) k)) j) = false := (by rw [odF, if_neg hp1]); simp [getT, PV.lo, lo1, hjw, wO, hod])), by (first | (have hio : i = (oF bs s (wQ bs s (fnW bs s (tQ bs s (at_, 0) k)) (q2W bs s (tQ bs s (at_, 0) k)) j)).toNat := (by omega); have hp1 : 0 < oF bs s (wQ bs s (fnW bs s (tQ bs s (at_, 0) k)) (q2W bs s (tQ bs s (at_, 0) k)) j) := (by omega); have hqf : qF bs s (fnW bs s (tQ bs s (at_, 0) k)) (wQ bs s (fnW bs s (tQ bs s (at_, 0) k)) (q2W bs s (tQ bs s (at_, 0) k)) j) = cfQ bs (zF bs s (fnW bs s (tQ bs s (at_, 0) k)) (wQ bs s (fnW bs s (tQ bs s (at_, 0) k)) (q2W bs s (tQ bs s (at_, 0) k)) j)) (q4F bs s (wQ bs s (fnW bs s (tQ bs s (at_, 0) k)) (q2W bs s (tQ bs s (at_, 0) k)) j)) i := (by rw [qF, if_pos hp1, hio]); have hff : fF bs s (fnW bs s (tQ bs s (at_, 0) k)) (wQ bs s (fnW bs s (tQ bs s (at_, 0) k)) (q2W bs s (tQ bs s (at_, 0) k)) j) = ⟨rN bs (wQ bs s (fnW bs s (tQ bs s (at_, 0) k)) (q2W bs s (tQ bs s (at_, 0) k)) j) (sz1 s), oF bs s (wQ bs s (fnW bs s (tQ bs s (at_, 0) k)) (q2W bs s (tQ bs s (at_, 0) k)) j), decide (dnF bs s (wQ bs s (fnW bs s (tQ bs s (at_, 0) k)) (q2W bs s (tQ bs s (at_, 0) k)) j) = 1), (fnW bs s (tQ bs s (at_, 0) k)), cfV bs (zF bs s (fnW bs s (tQ bs s (at_, 0) k)) (wQ bs s (fnW bs s (tQ bs s (at_, 0) k)) (q2W bs s (tQ bs s (at_, 0) k)) j)) (q4F bs s (wQ bs s (fnW bs s (tQ bs s (at_, 0) k)) (q2W bs s (tQ bs s (at_, 0) k)) j)) i⟩ := (by rw [fF, if_pos hp1, coF, hio]); simp [getH, Blk.lo, Cells.lo, lo1, wQ, wL, hqf, hff, Fl.row]) | (have hp1 : ¬ 0 < oF bs s (wQ bs s (fnW bs s (tQ bs s (at_, 0) k)) (q2W bs s (tQ bs s (at_, 0) k)) j) := (by omega); have hqf : qF bs s (fnW bs s (tQ bs s (at_, 0) k)) (wQ bs s (fnW bs s (tQ bs s (at_, 0) k)) (q2W bs s (tQ bs s (at_, 0) k)) j) = q2F bs s (wQ bs s (fnW bs s (tQ bs s (at_, 0) k)) (q2W bs s (tQ bs s (at_, 0) k)) j) := (by rw [qF, if_neg hp1]); have hff : fF bs s (fnW bs s (tQ bs s (at_, 0) k)) (wQ bs s (fnW bs s (tQ bs s (at_, 0) k)) (q2W bs s (tQ bs s (at_, 0) k)) j) = ⟨rN bs (wQ bs s (fnW bs s (tQ bs s (at_, 0) k)) (q2W bs s (tQ bs s (at_, 0) k)) j) (sz1 s), oF bs s (wQ bs s (fnW bs s (tQ bs s (at_, 0) k)) (q2W bs s (tQ bs s (at_, 0) k)) j), false, (fnW bs s (tQ bs s (at_, 0) k)), []⟩ := (by rw [fF, if_neg hp1]); simp [getH, Blk.lo, Cells.lo, lo1, wQ, wL, hqf, hff, Fl.row])), rfl, by omega⟩
            omega
      · clear hC35
        try simp at hc35
        refine swp_exit ?_
        simp [thn, inBlk]
        refine hK30 _ ?_; clear hK30
        refine swp_region ty_ok ?_
        refine runs_cut 2 fun R78 hR78 => ?_
        try simp (maxSteps := 1000000) [runs, gd, step1, need, evu, un, opnds, opv, ev, cst, cst1, cstL, getT, getH, putT, onL, nxt, argT, cellsOf, PV.one, thn, inBlk, jmp, fldP, ldP, ldC, live, Cells.len, Cells.get, Cells.w, sug, ldv, bin, ops2, sh2, binv, Tk.agg, stC, apC, rdS, apS, mvL, zp, argsP, idx, fillP, toInts, chunks, mkC, ixS, ixA, oidx, slP, sl0, mxF, bltn, frzA, frz, frzL, frz1, pur1, Cells.pur, PV.scal, scal1, runD, rdO, PV.ids, id1, zids, ety, Eff.on, cnd, minb, and1b, ifmax, ifmin, mxv, sugI, strv, w0, w1, w2, wm1, szP, tL_len, wL_len, cfV_len, List.length_map, List.take_succ_cons, List.take_zero, List.drop_succ_cons, List.drop_zero]
        repeat' (first | apply And.intro | intro _)
        any_goals (first | (refine hR78 _ ?_; clear hR78) | (first | omega | (simp only [IntKind.wrap_i64] at *; omega) | (simp_all; done) | (simp_all; omega)))
        refine runs_cut 1 fun R79 hR79 => ?_
        try simp (maxSteps := 1000000) [runs, gd, step1, need, evu, un, opnds, opv, ev, cst, cst1, cstL, getT, getH, putT, onL, nxt, argT, cellsOf, PV.one, thn, inBlk, jmp, fldP, ldP, ldC, live, Cells.len, Cells.get, Cells.w, sug, ldv, bin, ops2, sh2, binv, Tk.agg, stC, apC, rdS, apS, mvL, zp, argsP, idx, fillP, toInts, chunks, mkC, ixS, ixA, oidx, slP, sl0, mxF, bltn, frzA, frz, frzL, frz1, pur1, Cells.pur, PV.scal, scal1, runD, rdO, PV.ids, id1, zids, ety, Eff.on, cnd, minb, and1b, ifmax, ifmin, mxv, sugI, strv, w0, w1, w2, wm1, szP, tL_len, wL_len, cfV_len, List.length_map, List.take_succ_cons, List.take_zero, List.drop_succ_cons, List.drop_zero]
        repeat' (first | apply And.intro | intro _)
        any_goals (first | (refine Or.inl (hR79 _ ?_); clear hR79) | (first | omega | (simp only [IntKind.wrap_i64] at *; omega) | (simp_all; done) | (simp_all; omega)))
        try simp (maxSteps := 1000000) [runs, gd, step1, need, evu, un, opnds, opv, ev, cst, cst1, cstL, getT, getH, putT, onL, nxt, argT, cellsOf, PV.one, thn, inBlk, jmp, fldP, ldP, ldC, live, Cells.len, Cells.get, Cells.w, sug, ldv, bin, ops2, sh2, binv, Tk.agg, stC, apC, rdS, apS, mvL, zp, argsP, idx, fillP, toInts, chunks, mkC, ixS, ixA, oidx, slP, sl0, mxF, bltn, frzA, frz, frzL, frz1, pur1, Cells.pur, PV.scal, scal1, runD, rdO, PV.ids, id1, zids, ety, Eff.on, cnd, minb, and1b, ifmax, ifmin, mxv, sugI, strv, w0, w1, w2, wm1, szP, tL_len, wL_len, cfV_len, List.length_map, List.take_succ_cons, List.take_zero, List.drop_succ_cons, List.drop_zero]
        repeat' (first | apply And.intro | intro _)
        any_goals (first | (refine hK22 _ ?_; clear hK22) | (first | omega | (simp only [IntKind.wrap_i64] at *; omega) | (simp_all; done) | (simp_all; omega)))
        refine swp_region ty_ok ?_
        try simp (maxSteps := 1000000) [runs, gd, step1, need, evu, un, opnds, opv, ev, cst, cst1, cstL, getT, getH, putT, onL, nxt, argT, cellsOf, PV.one, thn, inBlk, jmp, fldP, ldP, ldC, live, Cells.len, Cells.get, Cells.w, sug, ldv, bin, ops2, sh2, binv, Tk.agg, stC, apC, rdS, apS, mvL, zp, argsP, idx, fillP, toInts, chunks, mkC, ixS, ixA, oidx, slP, sl0, mxF, bltn, frzA, frz, frzL, frz1, pur1, Cells.pur, PV.scal, scal1, runD, rdO, PV.ids, id1, zids, ety, Eff.on, cnd, minb, and1b, ifmax, ifmin, mxv, sugI, strv, w0, w1, w2, wm1, szP, tL_len, wL_len, cfV_len, List.length_map]
        repeat' apply And.intro
        any_goals (try omega)
        refine hL18 _ ⟨[(7, .ptr 2 0 0 1), (8, .ptr 3 0 0 1), (10, .fn 65 [.ptr 3 0 0 1, .ptr 0 0 0 1, .ptr 2 0 0 1]), (11, .ptr 4 0 0 1), (32, .int .i64 (winI s sh m g)), (33, .int .i64 ((k + 1) : Nat)), (6, .sl 5 0 (k + 1) (k + 1)), (12, .bool (tO bs s (at_, 0) (k + 1)))], [(0, some ⟨.rows 1 [[.ro (.ints .u8 bs)]], true, 45⟩), (1, some ⟨.rows 4 [[.int .u8 s, .int .u8 sh, .int .i64 m, .ro (.ints .i64 g)]], true, 24⟩), (2, some ⟨.rows 1 [[.int .i64 (tQ bs s (at_, 0) (k + 1)).1]], true, 3⟩), (3, some ⟨.rows 1 [[.int .i64 (tQ bs s (at_, 0) (k + 1)).2]], true, 41⟩), (4, some ⟨.rows 5 [[.int .i64 (sz0 s), .int .i64 (sz1 s), .int .i64 (sz2 s), .int .i64 (sz3 s), .int .i64 (sz4 s)]], true, 86⟩), (5, some ⟨.rows 1 ((tL bs s (at_, 0) (k + 1)).map fun w => [.ro (.rows 5 (w.map Fl.row))]), false, 33⟩)], 6⟩ _ ?_ ⟨(k + 1), by omega, by (have hje : (mW bs s (tQ bs s (at_, 0) k)).toNat = j := (by omega); show (tS bs s (at_, 0) k || wS bs s (fnW bs s (tQ bs s (at_, 0) k)) (q2W bs s (tQ bs s (at_, 0) k)) (mW bs s (tQ bs s (at_, 0) k)).toNat) = false; rw [hje, Bool.or_eq_false_iff]; exact ⟨by assumption, by assumption⟩), rfl, rfl⟩ ⟨by (have hje : (mW bs s (tQ bs s (at_, 0) k)).toNat = j := (by omega); simp [getT, PV.lo, lo1, hkw, tO, hje]), by (have hje : (mW bs s (tQ bs s (at_, 0) k)).toNat = j := (by omega); simp [getH, Blk.lo, Cells.lo, lo1, tQ, tL, hje]), rfl, by omega⟩
        omega
    · clear hC21
      try simp at hc21
      refine swp_exit ?_
      simp [thn, inBlk]
      refine hK16 _ ?_; clear hK16
      refine swp_seq fun K80 hK80 => ?_
      refine swp_block ?_
      refine swp_seq fun K81 hK81 => ?_
      refine swp_region ty_ok ?_
      try simp (maxSteps := 1000000) [runs, gd, step1, need, evu, un, opnds, opv, ev, cst, cst1, cstL, getT, getH, putT, onL, nxt, argT, cellsOf, PV.one, thn, inBlk, jmp, fldP, ldP, ldC, live, Cells.len, Cells.get, Cells.w, sug, ldv, bin, ops2, sh2, binv, Tk.agg, stC, apC, rdS, apS, mvL, zp, argsP, idx, fillP, toInts, chunks, mkC, ixS, ixA, oidx, slP, sl0, mxF, bltn, frzA, frz, frzL, frz1, pur1, Cells.pur, PV.scal, scal1, runD, rdO, PV.ids, id1, zids, ety, Eff.on, cnd, minb, and1b, ifmax, ifmin, mxv, sugI, strv, w0, w1, w2, wm1, szP, tL_len, wL_len, cfV_len, List.length_map]
      repeat' (first | apply And.intro | intro _)
      any_goals (first | (refine hK81 _ ?_; clear hK81) | (first | omega | (simp only [IntKind.wrap_i64] at *; omega) | (simp_all; done) | (simp_all; omega)))
      refine swp_if fun C82 hC82 => ?_
      try simp (maxSteps := 1000000) [runs, gd, step1, need, evu, un, opnds, opv, ev, cst, cst1, cstL, getT, getH, putT, onL, nxt, argT, cellsOf, PV.one, thn, inBlk, jmp, fldP, ldP, ldC, live, Cells.len, Cells.get, Cells.w, sug, ldv, bin, ops2, sh2, binv, Tk.agg, stC, apC, rdS, apS, mvL, zp, argsP, idx, fillP, toInts, chunks, mkC, ixS, ixA, oidx, slP, sl0, mxF, bltn, frzA, frz, frzL, frz1, pur1, Cells.pur, PV.scal, scal1, runD, rdO, PV.ids, id1, zids, ety, Eff.on, cnd, minb, and1b, ifmax, ifmin, mxv, sugI, strv, w0, w1, w2, wm1, szP, tL_len, wL_len, cfV_len, List.length_map]
      refine hC82 _ (fun hc82 => ?_) (fun hc82 => ?_)
      · clear hC82
        try simp at hc82
        refine swp_seq fun K83 hK83 => ?_
        refine swp_draw ty_ok mixed (ms := [0, 0, 2, 7]) (by kernel_rfl) ?_
        try simp (maxSteps := 1000000) [runs, gd, step1, need, evu, un, opnds, opv, ev, cst, cst1, cstL, getT, getH, putT, onL, nxt, argT, cellsOf, PV.one, thn, inBlk, jmp, fldP, ldP, ldC, live, Cells.len, Cells.get, Cells.w, sug, ldv, bin, ops2, sh2, binv, Tk.agg, stC, apC, rdS, apS, mvL, zp, argsP, idx, fillP, toInts, chunks, mkC, ixS, ixA, oidx, slP, sl0, mxF, bltn, frzA, frz, frzL, frz1, pur1, Cells.pur, PV.scal, scal1, runD, rdO, PV.ids, id1, zids, ety, Eff.on, cnd, minb, and1b, ifmax, ifmin, mxv, sugI, strv, w0, w1, w2, wm1, szP, tL_len, wL_len, cfV_len, List.length_map]
        repeat' (first | apply And.intro | intro _)
        any_goals (first | kernel_rfl | (refine hK83 _ ?_; clear hK83) | (first | omega | (simp only [IntKind.wrap_i64] at *; omega) | (simp_all; done) | (simp_all; omega)))
        refine swp_ret ?_
        simp [runs, gd, step1, need, evu, un, opnds, opv, ev, cst, cst1, cstL, getT, getH, putT, onL, nxt, argT, cellsOf, PV.one, thn, inBlk, jmp, fldP, ldP, ldC, live, Cells.len, Cells.get, Cells.w, sug, ldv, bin, ops2, sh2, binv, Tk.agg, stC, apC, rdS, apS, mvL, zp, argsP, idx, fillP, toInts, chunks, mkC, ixS, ixA, oidx, slP, sl0, mxF, bltn, frzA, frz, frzL, frz1, pur1, Cells.pur, PV.scal, scal1, runD, rdO, PV.ids, id1, zids, ety, Eff.on, cnd, minb, and1b, ifmax, ifmin, mxv, sugI, strv, w0, w1, w2, wm1, fnPost, Try.results25, resP, tupOf]
        exact getT_1 (getT_err hw0 (by omega) (by assumption) (by assumption)) (by assumption)
      · clear hC82
        try simp at hc82
        refine swp_seq fun K85 hK85 => ?_
        refine swp_region ty_ok ?_
        try simp (maxSteps := 1000000) [runs, gd, step1, need, evu, un, opnds, opv, ev, cst, cst1, cstL, getT, getH, putT, onL, nxt, argT, cellsOf, PV.one, thn, inBlk, jmp, fldP, ldP, ldC, live, Cells.len, Cells.get, Cells.w, sug, ldv, bin, ops2, sh2, binv, Tk.agg, stC, apC, rdS, apS, mvL, zp, argsP, idx, fillP, toInts, chunks, mkC, ixS, ixA, oidx, slP, sl0, mxF, bltn, frzA, frz, frzL, frz1, pur1, Cells.pur, PV.scal, scal1, runD, rdO, PV.ids, id1, zids, ety, Eff.on, cnd, minb, and1b, ifmax, ifmin, mxv, sugI, strv, w0, w1, w2, wm1, szP, tL_len, wL_len, cfV_len, List.length_map]
        repeat' (first | apply And.intro | intro _)
        any_goals (first | (refine hK85 _ ?_; clear hK85) | (first | omega | (simp only [IntKind.wrap_i64] at *; omega) | (simp_all; done) | (simp_all; omega)))
        refine swp_if fun C86 hC86 => ?_
        try simp (maxSteps := 1000000) [runs, gd, step1, need, evu, un, opnds, opv, ev, cst, cst1, cstL, getT, getH, putT, onL, nxt, argT, cellsOf, PV.one, thn, inBlk, jmp, fldP, ldP, ldC, live, Cells.len, Cells.get, Cells.w, sug, ldv, bin, ops2, sh2, binv, Tk.agg, stC, apC, rdS, apS, mvL, zp, argsP, idx, fillP, toInts, chunks, mkC, ixS, ixA, oidx, slP, sl0, mxF, bltn, frzA, frz, frzL, frz1, pur1, Cells.pur, PV.scal, scal1, runD, rdO, PV.ids, id1, zids, ety, Eff.on, cnd, minb, and1b, ifmax, ifmin, mxv, sugI, strv, w0, w1, w2, wm1, szP, tL_len, wL_len, cfV_len, List.length_map]
        refine hC86 _ (fun hc86 => ?_) (fun hc86 => ?_)
        · clear hC86
          try simp at hc86
          refine swp_seq fun K87 hK87 => ?_
          refine swp_region ty_ok ?_
          try simp (maxSteps := 1000000) [runs, gd, step1, need, evu, un, opnds, opv, ev, cst, cst1, cstL, getT, getH, putT, onL, nxt, argT, cellsOf, PV.one, thn, inBlk, jmp, fldP, ldP, ldC, live, Cells.len, Cells.get, Cells.w, sug, ldv, bin, ops2, sh2, binv, Tk.agg, stC, apC, rdS, apS, mvL, zp, argsP, idx, fillP, toInts, chunks, mkC, ixS, ixA, oidx, slP, sl0, mxF, bltn, frzA, frz, frzL, frz1, pur1, Cells.pur, PV.scal, scal1, runD, rdO, PV.ids, id1, zids, ety, Eff.on, cnd, minb, and1b, ifmax, ifmin, mxv, sugI, strv, w0, w1, w2, wm1, szP, tL_len, wL_len, cfV_len, List.length_map]
          repeat' (first | apply And.intro | intro _)
          any_goals (first | (refine hK87 _ ?_; clear hK87) | (first | omega | (simp only [IntKind.wrap_i64] at *; omega) | (simp_all; done) | (simp_all; omega)))
          refine swp_ret ?_
          simp [runs, gd, step1, need, evu, un, opnds, opv, ev, cst, cst1, cstL, getT, getH, putT, onL, nxt, argT, cellsOf, PV.one, thn, inBlk, jmp, fldP, ldP, ldC, live, Cells.len, Cells.get, Cells.w, sug, ldv, bin, ops2, sh2, binv, Tk.agg, stC, apC, rdS, apS, mvL, zp, argsP, idx, fillP, toInts, chunks, mkC, ixS, ixA, oidx, slP, sl0, mxF, bltn, frzA, frz, frzL, frz1, pur1, Cells.pur, PV.scal, scal1, runD, rdO, PV.ids, id1, zids, ety, Eff.on, cnd, minb, and1b, ifmax, ifmin, mxv, sugI, strv, w0, w1, w2, wm1, fnPost, Try.results25, resP, tupOf]
          exact getT_1 (getT_odd hw0 (k := k) (by omega) (by assumption) (by assumption) (by assumption)) (by omega)
        · clear hC86
          try simp at hc86
          refine swp_skip ?_
          simp only [thn, inBlk]
          refine hK80 _ ?_; clear hK80
          refine swp_seq fun K88 hK88 => ?_
          refine swp_draw ty_ok mixed (ms := [0, 0, 1, 7, 15]) (by kernel_rfl) ?_
          try simp (maxSteps := 1000000) [runs, gd, step1, need, evu, un, opnds, opv, ev, cst, cst1, cstL, getT, getH, putT, onL, nxt, argT, cellsOf, PV.one, thn, inBlk, jmp, fldP, ldP, ldC, live, Cells.len, Cells.get, Cells.w, sug, ldv, bin, ops2, sh2, binv, Tk.agg, stC, apC, rdS, apS, mvL, zp, argsP, idx, fillP, toInts, chunks, mkC, ixS, ixA, oidx, slP, sl0, mxF, bltn, frzA, frz, frzL, frz1, pur1, Cells.pur, PV.scal, scal1, runD, rdO, PV.ids, id1, zids, ety, Eff.on, cnd, minb, and1b, ifmax, ifmin, mxv, sugI, strv, w0, w1, w2, wm1, szP, tL_len, wL_len, cfV_len, List.length_map]
          repeat' (first | apply And.intro | intro _)
          any_goals (first | kernel_rfl | (refine hK88 _ ?_; clear hK88) | (first | omega | (simp only [IntKind.wrap_i64] at *; omega) | (simp_all; done) | (simp_all; omega)))
          refine swp_ret ?_
          simp [runs, gd, step1, need, evu, un, opnds, opv, ev, cst, cst1, cstL, getT, getH, putT, onL, nxt, argT, cellsOf, PV.one, thn, inBlk, jmp, fldP, ldP, ldC, live, Cells.len, Cells.get, Cells.w, sug, ldv, bin, ops2, sh2, binv, Tk.agg, stC, apC, rdS, apS, mvL, zp, argsP, idx, fillP, toInts, chunks, mkC, ixS, ixA, oidx, slP, sl0, mxF, bltn, frzA, frz, frzL, frz1, pur1, Cells.pur, PV.scal, scal1, runD, rdO, PV.ids, id1, zids, ety, Eff.on, cnd, minb, and1b, ifmax, ifmin, mxv, sugI, strv, w0, w1, w2, wm1, fnPost, Try.results25, resP, tupOf]
          obtain ⟨e1, e2, e3⟩ := getT_fin hw0 (k := k) (by omega) (by assumption) (by assumption) (by assumption)
          exact ⟨tL_len _ _ _ _, by rw [e2], e3, e1⟩

end Go.Proofs.Ytmkgfgdipkagbaa
