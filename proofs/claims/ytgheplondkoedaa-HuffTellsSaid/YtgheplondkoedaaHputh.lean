import Derived.Test.YtgheplondkoedaaWf
import Derived.Test.YtgheplondkoedaaTyh
import Derived.Test.YtgheplondkoedaaBkq
import Derived.Test.YtgheplondkoedaaHsrt
import Derived.Test.YtgheplondkoedaaHbk
import Derived.Test.YtgheplondkoedaaHbk2
import Derived.Test.YtgheplondkoedaaHbk3
import Derived.Test.YtgheplondkoedaaHbits
import Derived.Test.YtgheplondkoedaaHrd
import Derived.Test.YtgheplondkoedaaHrdq
import Derived.Test.YtgheplondkoedaaHbits2
import Derived.Test.YtgheplondkoedaaHbk4
import Derived.Test.YtgheplondkoedaaHbk5
import Derived.Test.YtgheplondkoedaaHbk6
import Derived.Test.YtgheplondkoedaaHbk8
import Derived.Test.YtgheplondkoedaaHbk9
import Derived.Test.YtgheplondkoedaaHgrow
namespace Go.Proofs.Ytgheplondkoedaa
set_option linter.unusedVariables false
set_option linter.unusedSimpArgs false
set_option maxRecDepth 10000
open Go Go.Pv

open Go.RowKit
theorem own_new {c : Cx} {B k : Nat} (hok : HeapOk c B) (hk : ¬ c.A k) {w' : World} {v : Value} {ys : List Int} (ho : Own c.w.heap.size 5 .u8 w' v ys) (hb : Below c.w.heap.size c.w w') :
    ∃ c', c'.w = w' ∧ Rep c' false (.sl k 0 ys.length ys.length) v ∧ Post c c' B [(k, some ⟨.ints .u8 ys, false, 5⟩)] := by
  have ho' : w'.ownsRow c.w.heap.size 5 1 v ys.length (ys.map (Value.int .u8)) := ho
  have hnew : ∀ g, blkOf v = some g → c.w.heap.size ≤ g := fun g hgg => by
    rcases ho'.2 with ⟨rfl, _⟩ | ⟨g', cap, cur, rfl, hB, _⟩
    · cases hgg
    · cases hgg; exact hB
  have hg : c.w.grownBy w' none := by
    obtain ⟨b1, b2, b3, b4, b5⟩ := hb
    exact ⟨b1, b2, b3, b4, fun j hj _ => b5 j hj⟩
  obtain ⟨c', e1, e2, hp⟩ := post_new hok (id := k) (blk' := ⟨.ints .u8 ys, false, 5⟩) (V' := v) (w' := w') hk hg hnew (fun c' _ hw => by
    refine ⟨ys.map (Value.int .u8), ?_, ints_reps c' true .u8 ys⟩
    refine ⟨by simp [Cells.len, Cells.w], ?_⟩
    rw [hw]
    rcases ho'.2 with ⟨h, h0⟩ | ⟨g', cap, cur, h, hB, hr⟩
    · exact .inl ⟨h, h0⟩
    · exact .inr ⟨g', cap, cur, h, Nat.le_trans hok.base hB, hr⟩)
  refine ⟨c', e1, ?_, hp⟩
  have hHk : c'.H k = some ⟨.ints .u8 ys, false, 5⟩ := by rw [hp.H]; exact put_same _ _ _
  refine .sl k 0 _ _ v ((hp.A k).2 (.inr (by simp))) ?_ fun blk hb => ?_
  · rcases ho'.2 with ⟨rfl, h0⟩ | ⟨g', cap, cur, rfl, _, _, h, _⟩
    · exact ⟨_, 0, by rw [h0], by omega⟩
    · exact ⟨_, _, rfl, h⟩
  · rw [hHk] at hb
    cases hb
    refine ⟨rfl, Nat.le_refl _, fun _ => ⟨by omega, fun _ => .inl ?_, fun h => absurd ⟨rfl, rfl⟩ h⟩⟩
    rw [e2, put_same]
theorem sl_rd {c : Cx} {B a : Nat} (hok : HeapOk c B) {xs : List Int} {v : Value} (hH : c.H a = some ⟨.ints .u8 xs, false, 5⟩) (h : Rep c false (.sl a 0 xs.length xs.length) v) : ∃ A cp, v = .slice A xs.length cp ∧ Rd .u8 c.w A xs.length xs := by
  obtain ⟨cs, hcs, hx⟩ := rdS_ok hok (K := fun cs => cs = .ints .u8 xs) h (by
    simp only [rdS]
    rw [hH]
    refine ⟨rfl, ?_⟩
    first | rfl | simp [Cells.sub])
  subst hcs
  rcases hx with ⟨h0, A, cp, rfl⟩ | ⟨h0, b, off, cp, rfl, hcp, hat, hlt⟩
  · have hx : xs.length = 0 := h0
    have : xs = [] := List.eq_nil_of_length_eq_zero hx
    subst this
    exact ⟨A, cp, rfl, Rd.nil⟩
  · refine ⟨_, cp, rfl, rfl, fun hn => ⟨b, off, rfl, hlt, fun i hi => ?_⟩⟩
    obtain ⟨u, h1, h2, _⟩ := hat i 0 hi (by show 0 < 1; omega)
    have e : off + (i * (Cells.ints .u8 xs).w + 0) = off + i := by show off + (i * 1 + 0) = _; omega
    rw [e] at h1
    rw [h1]
    have e2 : (Cells.ints .u8 xs).get i 0 = .int .u8 (xs[i]?.getD 0) := by
      simp [Cells.get, List.getD_eq_getElem?_getD]
    rw [e2] at h2
    cases h2
    rfl

theorem put_h (xs : List Int) (num size : Int) (a k : Nat) (hm : xs.length ≤ 17592186043000) (hn : -9223372036854775808 ≤ num ∧ num ≤ 9223372036854775807) :
    HCall Try.prog 50 [.sl a 0 xs.length xs.length, .int .i64 num, .int .i64 size] [(a, some ⟨.ints .u8 xs, false, 5⟩)] k (.tup [.sl k 0 (putL xs num size).length (putL xs num size).length, .int .i64 (putE num size)]) [(k, some ⟨.ints .u8 (putL xs num size), false, 5⟩)] := by
  refine ⟨⟨_, Try.func50, by simp [Try.f50], rfl⟩, fun c B vs hok hH hfree ha => ?_⟩
  obtain ⟨v1, v2, v3, rfl, h1, h2, h3⟩ := args3 ha
  obtain ⟨A, cp, rfl, hr⟩ := sl_rd hok (by rw [hH]; simp [getH]) h1
  cases h2
  cases h3
  refine (put_any A xs.length cp xs num size c.w hr hm hn).mono ?_
  rintro e w' ⟨v, rfl, ho, hb⟩
  obtain ⟨c', e1, e2, hp⟩ := own_new hok (hfree k (Nat.le_refl _)) ho hb
  refine ⟨_, c', rfl, e1, .tup false _ _ rfl (fun i p u hp hu => ?_), hp⟩
  match i with
  | 0 => cases hp; cases hu; exact e2
  | 1 => cases hp; cases hu; exact .int ..

end Go.Proofs.Ytgheplondkoedaa

