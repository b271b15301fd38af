import Derived.RangeFuncBox
import Derived.RangeFuncLeaves
import Derived.RangeFuncNested
import Derived.Shelf.Abstract
import Derived.OwnWalkIn
import Derived.TacticsInMore
import Derived.LoopNIn
import Derived.LoopIn
import Derived.Maps.AppendAt
import Derived.Test.YtmkgfgdipkagbaaBase
import Derived.Test.YtmkgfgdipkagbaaBitsP
/-
  The walks of package bits, the iterator: each, its closure, slices.AppendSeq over it.
-/
namespace Go.Proofs.Ytmkgfgdipkagbaa
set_option linter.unusedVariables false
open Go.RowKit Go.Shelf
attribute [local go_sem] Oper.semAt_some

/-- What a round keeps: the two boxes that the iterator reads. -/
def Two (b c : Nat) (W W' : World) : Prop := W'.heap[b]? = W.heap[b]? ∧ W'.heap[c]? = W.heap[c]?
theorem Two.trans {b c : Nat} {X Y Z : World} (h : Two b c X Y) (k : Two b c Y Z) : Two b c X Z := ⟨k.1.trans h.1, k.2.trans h.2⟩

theorem i64_bit8 (n j : Nat) (hn : n < 9223372036854775808) : bits .and .i64 ((n : Int) / 2 ^ j) 1 % 256 = ((n / 2 ^ j % 2 : Nat) : Int) := by
  have hc : (n : Int) / (2 : Int) ^ j = ((n / 2 ^ j : Nat) : Int) := by push_cast; rfl
  have hle : n / 2 ^ j ≤ n := Nat.div_le_self _ _
  rw [hc]
  have := i64_and_nat (n / 2 ^ j) 1 (by omega) (by omega)
  rw [show ((1 : Nat) : Int) = 1 from rfl] at this
  rw [this, nat_mask1]
  omega

set_option maxRecDepth 100000 in
set_option maxHeartbeats 1000000 in
theorem each1_in (F : Fence) (n : Nat) (h6 : F.fn 105) (hro : F.round = none) (hn : 1 ≤ n) (l bn bs : Nat) (num size : Nat) (hnum : num < 9223372036854775808) (hsize : size ≤ 63) (J Jx : List Int → World → Prop)
    (hY : ∀ pre x W, J pre W → pre.length < size → YieldAt F (n - 1) Try.prog l #[.int .u8 x] W fun e W' =>
      (e = .returned (.bool true) ∧ J (pre ++ [x]) W' ∧ Two bn bs W W') ∨ (e = .returned (.bool false) ∧ Jx (pre ++ [x]) W'))
    (W : World) (hbn : Boxed W bn 3 (.int .i64 num)) (hbs : Boxed W bs 3 (.int .i64 size)) (h0 : J [] W) :
    CallsIn F n Try.prog 105 #[.func (.yield l) #[] #[], .pointer (some ⟨bs, 0, none⟩), .pointer (some ⟨bn, 0, none⟩)] W fun e W' => (∃ v, e = .returned v) ∧
      ((∃ ys, ys = bitsOf num size ∧ J ys W') ∨ (∃ pre, pre <+: bitsOf num size ∧ Jx pre W')) := by
  have cs := hbs.cell
  refine callsIn_of_wp Try.func105 rfl h6 ?_ hro
  simp only [Try.ntmps105, List.size_toArray, List.length_cons, List.length_nil, Nat.reduceAdd, Nat.reduceSub, Array.replicate_succ, Array.replicate_zero, List.push_toArray, List.append_toArray, List.nil_append, List.cons_append]
  gi_wp2
  clear cs
  gi_loopw [4] (fun p wr => ∃ k : Nat, k ≤ size ∧ p = .int .i64 ((size : Int) - 1 - k) ∧ J ((bitsOf num size).take k) wr ∧ Boxed wr bn 3 (.int .i64 num) ∧ Boxed wr bs 3 (.int .i64 size)) (fun p _ => (intOf p + 1).toNat)
  case atStart =>
    exact ⟨0, Nat.zero_le _, by simp, by simpa using h0, hbn, hbs⟩
  case round =>
    obtain ⟨k, hk, rfl, hJs, hn1, hs1⟩ := hrel
    by_cases hlt : k < size
    · have hge : (0 : Int) ≤ (size : Int) - 1 - k := by omega
      have hle : (size : Int) - 1 - k ≤ 63 := by omega
      have cn := hn1.cell
      have hn2 : (num : Int) ≤ 9223372036854775807 := by omega
      obtain ⟨fn, tmps, assign, body, hy, hR⟩ := hY _ (bits .and .i64 ((num : Int) / 2 ^ (size - 1 - k)) 1 % 256) wr hJs (by rw [List.length_take, bitsOf_len]; omega)
      have HT := hid (show (bitsOf num size).take (k + 1) = (bitsOf num size).take k ++ [bits .and .i64 ((num : Int) / 2 ^ (size - 1 - k)) 1 % 256] by
        rw [bitsOf_take _ _ _ hlt, bitsOf_take _ _ _ hk, List.range_succ, List.map_append, i64_bit8 _ _ hnum]; rfl)
      gi_wp2
      refine hR.mono ?_
      rintro e W3 (⟨rfl, hJ3, hk3⟩ | ⟨rfl, hJx3⟩)
      · have hn3 : Boxed W3 bn 3 (.int .i64 num) := hk3.1.trans hn1
        have hs3 : Boxed W3 bs 3 (.int .i64 size) := hk3.2.trans hs1
        gi_wp2
        go_roundw
        case rel => exact ⟨k + 1, by omega, by congr 1; omega, by rw [HT.out]; exact hJ3, hn3, hs3⟩
        case measure => simp [intOf]; omega
      · gi_wp2
        refine bodyPost_ret (results_none rfl _ _ _) rfl ?_
        exact ⟨⟨_, rfl⟩, .inr ⟨_, by rw [← HT.out]; exact List.take_prefix _ _, hJx3⟩⟩
    · obtain rfl : k = size := by omega
      have HL := hid (show (bitsOf num k).take k = bitsOf num k from List.take_of_length_le (by rw [bitsOf_len]; omega))
      rw [HL.out] at hJs
      gi_wp2
      go_end0
      exact ⟨⟨_, rfl⟩, .inl ⟨_, rfl, hJs⟩⟩

theorem each_stops (F : Fence) (n : Nat) (h6 : F.fn 105) (hro : F.round = none) (hn : 1 ≤ n) (bn bs num size : Nat) (hnum : num < 9223372036854775808) (hsize : size ≤ 63) (w : World)
    (hbn : Boxed w bn 3 (.int .i64 num)) (hbs : Boxed w bs 3 (.int .i64 size)) :
    SeqStopsK F n Try.prog 105 #[.pointer (some ⟨bs, 0, none⟩), .pointer (some ⟨bn, 0, none⟩)] (fun x : Int => #[Value.int .u8 x]) (Two bn bs) (fun ys => ys = bitsOf num size) (fun pre => pre <+: bitsOf num size) size w :=
  fun l J Jx W hW _ _ hY h0 => each1_in F n h6 hro hn l bn bs num size hnum hsize J Jx hY W ((hW.block bn hbn.lt).trans hbn) ((hW.block bs hbs.lt).trans hbs) h0

/-- The result of AppendSeq. -/
def RetSeq (B : Nat) (W : World) (xs : List Int) (e : Ending) (w' : World) : Prop := ∃ v, e = .returned v ∧ Own B 5 .u8 w' v xs ∧ Below B W w'

set_option maxRecDepth 100000 in
set_option maxHeartbeats 2000000 in
theorem appendSeq_in (F : Fence) (n : Nat) (h3 : F.fn 89) (h5 : F.fn 105) (hro : F.round = none) (hn : 3 ≤ n) (B : Nat) (A : Option Addr) (m c : Nat) (xs : List Int) (bn bs num size : Nat) (hnum : num < 9223372036854775808) (hsize : size ≤ 63) (hlen : xs.length ≤ 17592186044000) (w : World)
    (hown : Own B 5 .u8 w (.slice A m c) xs) (hB : B ≤ w.heap.size) (hbn : Boxed w bn 3 (.int .i64 num)) (hbs : Boxed w bs 3 (.int .i64 size)) :
    CallsIn F n Try.prog 89 #[.slice A m c, .func (.func 105) #[] #[.pointer (some ⟨bs, 0, none⟩), .pointer (some ⟨bn, 0, none⟩)]] w (RetSeq B w (xs ++ bitsOf num size)) := by
  have h1 : 1 ≤ n := by omega
  obtain ⟨i0, hi, hz0, hz1, hz2⟩ := info_parts Try.info_u8
  refine callsIn_of_wp_marks Try.func89 rfl h3 ?_ hro
  simp only [Try.ntmps89, List.size_toArray, List.length_cons, List.length_nil, Nat.reduceAdd, Nat.reduceSub, Array.replicate_succ, Array.replicate_zero, List.push_toArray, List.append_toArray, List.nil_append, List.cons_append]
  gi_wp2
  have bO := Boxed.new w 45 (.slice A m c)
  have hbn1 := hbn.alloc (.cells #[.slice A m c] 45)
  have hbs1 := hbs.alloc (.cells #[.slice A m c] 45)
  have hown1 := hown.alloc (.cells #[.slice A m c] 45)
  have hB0 : Below B w (w.alloc (.cells #[.slice A m c] 45)) := (Below.refl _ w).alloc hB _
  have hnlt := hbn.lt
  have hslt := hbs.lt
  refine wpIn_rangeFunc_ownG hro h1 (gf := 105) (lb := #[.pointer (some ⟨bs, 0, none⟩), .pointer (some ⟨bn, 0, none⟩)]) rfl h5 (enters_of Try.func105 (by kernel_rfl) rfl)
    (each_stops F (n - 1) h5 hro (by omega) bn bs num size hnum hsize _ hbn1 hbs1) Two.trans
    (fun W l o o' hl ho hc hw => ⟨World.putObj_heap_other (by simp at hl; omega), World.putObj_heap_other (by simp at hl; omega)⟩) (Below.refl _ _) (fun _ => rfl)
    (fun pre W => (∃ v, Boxed W w.heap.size 45 v ∧ W.ownsRow B 5 1 v (xs.length + pre.length) ((xs ++ pre).map (Value.int .u8)) ∧ True) ∧ Boxed W bn 3 (.int .i64 num) ∧ Boxed W bs 3 (.int .i64 size) ∧ Below B w W)
    (fun _ _ _ => False)
    (OwnFrom.and (Own.from (holdsRow_own B w.heap.size 45 5 1 (fun pre => xs.length + pre.length) (fun pre => (xs ++ pre).map (Value.int .u8)) (fun _ _ => True)) _) (OwnFrom.and (Own.from (boxed_own bn _ _) _) (OwnFrom.and (Own.from (boxed_own bs _ _) _) (ownFrom_below hB (by simp; omega)))))
    (fun _ _ _ _ _ hs _ _ => hs)
    ⟨⟨_, bO, by rw [List.append_nil]; exact hown1, trivial⟩, hbn1, hbs1, hB0⟩
    (fun x => { tmps := #[.slice A m c, .func (.func 105) #[] #[.pointer (some ⟨bs, 0, none⟩), .pointer (some ⟨bn, 0, none⟩)], .pointer (some ⟨w.heap.size, 0, none⟩), undef, .slice none 0 0, .int .u8 x, .func (.func 105) #[] #[.pointer (some ⟨bs, 0, none⟩), .pointer (some ⟨bn, 0, none⟩)], .int .u8 x, undef, undef, undef, undef, undef], defers := [] }) ?assign ?body ?done ?stop
  case assign =>
    intro l x W K hK
    gi_wp2
    exact hK
  case body =>
    rintro l pre x W ⟨⟨v, hv, hrow, _⟩, hn1, hs1, hBW⟩ hlt
    have hc := hv.cell
    have hBs : B ≤ W.heap.size := Nat.le_trans hB hBW.size
    gi_wp2_with (gi_at_builtin; refine wpListIn_append_own _ rfl _ _ 45 rfl B 5 i0 (.int .u8 0) 1 1 Try.underlying45 hi hz0 hz1 hz2 rfl (by decide) _ _ _ rfl (hrow.alloc _) ⟨W.heap.size, 0, none⟩ 1 1 [.int .u8 x] rfl rfl (cell_one_new _ _ _) (by simp [Value.oneCell']) (by unfold maxLen; omega) (by omega) (by simp; omega) ?_; intro v' w1 hown' hgrow _; obtain ⟨g', cap', rfl⟩ := ownsRow_succ hown'; obtain ⟨hv1, hv2, hr2, hk2, hb2⟩ := hv.appended (by decide) hrow hBs hB hown' hgrow; have hc1 := hv1.cell; have hf1 := hv1.frozen)
    have hnn := hn1.not_row (by decide) hrow
    have hns := hs1.not_row (by decide) hrow
    have hn3 : Boxed (w1.setCell ⟨w.heap.size, 0, none⟩ (.slice (some ⟨g', 0, none⟩) (xs.length + pre.length + 1) cap')) bn 3 (.int .i64 num) :=
      (((hn1.alloc _).kept hgrow hnn).kept (grownBy_setCell' _ _ _) (by simp; omega))
    have hs3 : Boxed (w1.setCell ⟨w.heap.size, 0, none⟩ (.slice (some ⟨g', 0, none⟩) (xs.length + pre.length + 1) cap')) bs 3 (.int .i64 size) :=
      (((hs1.alloc _).kept hgrow hns).kept (grownBy_setCell' _ _ _) (by simp; omega))
    exact ⟨hk2.from _, ⟨hn3.trans hn1.symm, hs3.trans hs1.symm⟩, ⟨_, hv2, by rw [List.length_append, ← List.append_assoc]; simpa [Nat.add_assoc] using hr2, trivial⟩, hn3, hs3, hBW.trans hb2⟩
  case done =>
    rintro D ys W hD rfl ⟨⟨v, hv, hrow, _⟩, _, _, hBW⟩ hK
    have hc := hv.cell
    gi_wp2
    refine ⟨by simp, .inl ⟨_, _, rfl, run_takeDeferred hK, ?_⟩⟩
    refine ⟨_, results_tmp rfl _ _ _, v, rfl, ?_, hBW.trans (belowK_b (w := w) hB W D _ _ (by simp at hD; omega) hK rfl rfl)⟩
    unfold Proofs.Ytmkgfgdipkagbaa.Own
    rw [List.length_append]
    exact ownsRow_putObj hrow _ hK rfl
  case stop =>
    rintro D c pre W _ _ h _
    exact h.elim

end Go.Proofs.Ytmkgfgdipkagbaa

