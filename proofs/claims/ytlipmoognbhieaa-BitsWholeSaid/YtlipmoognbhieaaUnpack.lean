/-
  The walks of package bits: Unpack (a range over a function inside a loop).
-/
import Derived.Test.YtlipmoognbhieaaPack
import Derived.Test.YtlipmoognbhieaaOpens
namespace Go.Proofs.Ytlipmoognbhieaa
set_option linter.unusedVariables false
open Go.RowKit Go.Shelf
attribute [local go_sem] Oper.semAt_some

set_option maxHeartbeats 400000 in
theorem unpack_big (A : Option Addr) (n c : Nat) (xs : List Int) (w : World) (hx : Rd .u8 w A n xs) (hbig : 2097152 < n) :
    Calls Try.prog 11 #[.slice A n c] w (RetOwnE w 5 .u8 (unpackR xs) (unpackE xs)) := by
  have PE := hid (show unpackE xs = 3 by unfold unpackE; rw [if_pos (by rw [hx.1]; exact hbig)])
  have PR := hid (show unpackR xs = [] by unfold unpackR; rw [if_pos (by rw [hx.1]; exact hbig)])
  clear hx
  go_enter Try.func11, Try.ntmps11
  go_wp2
  go_ret2
  rw [PR.out, PE.out]
  exact ⟨_, rfl, Own.none_, Below.refl _ _⟩

/-- The frame of Unpack at its loop's head. -/
def uFrame (A : Option Addr) (l c g B : Nat) (i u6 u18 u19 u20 u21 u22 u23 u29 : Value) (ds : List Deferred) : Act :=
  { tmps := #[.slice A l c, undef, .slice none 0 0, .int .i64 0, .pointer (some ⟨B, 0, none⟩), undef, u6, undef, .slice A l c, .int .i64 l, .bool (decide ((2097152 : Int) < (l : Int))), .slice A l c, .int .i64 l,
      .int .i64 (8 * (l : Int)), .slice (some ⟨g, 0, none⟩) 0 (8 * l), .slice A l c, .int .i64 l, i, u18, u19, u20, u21, u22, u23, undef, undef, undef, undef, undef, u29, undef], defers := ds }

def uInv (A : Option Addr) (l c B : Nat) (xs : List Int) (w : World) (a : Act) (W : World) : Prop :=
  ∃ (k : Nat) (ds : List Deferred) (v u6 u18 u19 u20 u21 u22 u23 u29 : Value), a = uFrame A l c w.heap.size B (.int .i64 k) u6 u18 u19 u20 u21 u22 u23 u29 ds ∧ k ≤ l ∧
    Boxed W B 22 v ∧ Own w.heap.size 5 .u8 W v (openL (xs.take k)) ∧ Opens w.heap.size W.heap.size ds W ∧ Below w.heap.size w W

set_option maxRecDepth 100000 in
set_option maxHeartbeats 2000000 in
theorem unpack_in (A : Option Addr) (l c : Nat) (xs : List Int) (w : World) (hx : Rd .u8 w A l xs) (hbig : ¬ 2097152 < l) (hp : ∀ k : Nat, 0 ≤ xs[k]?.getD 0 ∧ xs[k]?.getD 0 ≤ 255) :
    CallsIn Fence.wide 3 Try.prog 11 #[.slice A l c] w (RetOwnE w 5 .u8 (openL xs) 0) := by
  have h1 : 1 ≤ 3 := by omega
  have hro : Fence.wide.round = none := rfl
  have Hl := hid hx.1
  have Hx := hid hx
  have Hp := hid hp
  clear hx hp
  obtain ⟨i0, hi, hz0, hz1, hz2⟩ := info_parts Try.info_u8
  refine callsIn_of_wp_marks Try.func11 rfl trivial ?_ hro
  simp only [Try.ntmps11, List.size_toArray, List.length_cons, List.length_nil, Nat.reduceAdd, Nat.reduceSub, Array.replicate_succ, Array.replicate_zero, List.push_toArray, List.append_toArray, List.nil_append, List.cons_append]
  gi_wp2_with (gi_at_make; refine wpListIn_make_own _ rfl _ _ 22 rfl w.heap.size 5 i0 (.int .u8 0) 1 Try.underlying22 hi hz0 hz1 .i64 .i64 (8 * (l : Int)) (8 * l) rfl rfl (by push_cast; rfl) (by rw [hz2]; omega) (by unfold maxLen; omega) (Nat.le_refl _) ?_; intro w1 hown hgrow)
  have hb1 : Below w.heap.size w w1 := (Below.refl _ _).grown hgrow (Nat.le_refl _) (fun k hk => by cases hk)
  have hs1 := hb1.size
  have bO := Boxed.new w1 22 (.slice (some ⟨w.heap.size, 0, none⟩) 0 (8 * l))
  have hown1 : Own w.heap.size 5 .u8 (w1.alloc (.cells #[.slice (some ⟨w.heap.size, 0, none⟩) 0 (8 * l)] 22)) (.slice (some ⟨w.heap.size, 0, none⟩) 0 (8 * l)) (openL (xs.take 0)) := hown.alloc _
  have hb2 := hb1.alloc hs1 (.cells #[.slice (some ⟨w.heap.size, 0, none⟩) 0 (8 * l)] 22)
  generalize hB : w1.heap.size = B at *
  have hltB : B < (w1.alloc (.cells #[.slice (some ⟨w.heap.size, 0, none⟩) 0 (8 * l)] 22)).heap.size := by simp; omega
  clear hB hown hgrow hb1
  generalize w1.alloc (.cells #[.slice (some ⟨w.heap.size, 0, none⟩) 0 (8 * l)] 22) = w2 at *
  refine wpIn_loop (uInv A l c B xs w) (fun a _ => l - (intOf (a.tmps.getD 17 undef)).toNat) ?start ?round
  case start => exact ⟨0, [], _, undef, undef, undef, undef, undef, undef, undef, undef, rfl, Nat.zero_le _, bO, hown1, Opens.nil _ _ _, hb2⟩
  case round =>
    rintro _ wr ⟨k, ds, v, u6, u18, u19, u20, u21, u22, u23, u29, rfl, hk, hv, hrow, hop, hbel⟩
    unfold uFrame
    by_cases hlt : k < l
    · obtain ⟨b, off, rfl, hbl⟩ := Hx.out.addr (by omega)
      have ck := (Hx.out.below hbel (Nat.le_refl _)).cellAt k hlt
      obtain ⟨hp0, hp1⟩ := Hp.out k
      obtain ⟨cx, hxk⟩ := Int.eq_ofNat_of_zero_le hp0
      have HXK := hid hxk
      rw [hxk] at ck hp1
      clear hxk hp0
      have OT := hid (openL_take xs k (by rw [Hl.out]; exact hlt))
      have OL := hid (show (openL (xs.take k)).length = 8 * k by rw [openL_len, List.length_take, Hl.out]; omega)
      have hcx : cx < 9223372036854775808 := by omega
      gi_wp2_with fail
      refine ⟨trivial, (callsIn_wide.2 (each_any _ _ wr)).mono ?_⟩
      rintro e w' ⟨rfl, rfl⟩
      gi_wp2_with fail
      have hBlt := hv.lt
      have hws := hbel.size
      have bN : Boxed ((wr.alloc (.cells #[.int .i64 cx] 3)).alloc (.cells #[.int .i64 8] 3)) wr.heap.size 3 (.int .i64 cx) := (Boxed.new wr 3 (.int .i64 cx)).alloc _
      have bS : Boxed ((wr.alloc (.cells #[.int .i64 cx] 3)).alloc (.cells #[.int .i64 8] 3)) (wr.heap.size + 1) 3 (.int .i64 ((8 : Nat) : Int)) := by
        have := Boxed.new (wr.alloc (.cells #[.int .i64 cx] 3)) 3 (.int .i64 8)
        rw [World.size_alloc] at this
        exact this
      have hv2 := (hv.alloc (.cells #[.int .i64 cx] 3)).alloc (.cells #[.int .i64 8] 3)
      have hrow2 : Own w.heap.size 5 .u8 ((wr.alloc (.cells #[.int .i64 cx] 3)).alloc (.cells #[.int .i64 8] 3)) v (openL (xs.take k)) := (hrow.alloc _).alloc _
      have hop2 := hop.keeps (KeepsOthers.trans (KeepsOthers.alloc wr (.cells #[.int .i64 cx] 3)) (KeepsOthers.alloc _ (.cells #[.int .i64 8] 3)))
      have hbel2 := (hbel.alloc hws (.cells #[.int .i64 cx] 3)).alloc (by simp; omega) (.cells #[.int .i64 8] 3)
      have hsz2 : ((wr.alloc (.cells #[.int .i64 cx] 3)).alloc (.cells #[.int .i64 8] 3)).heap.size = wr.heap.size + 2 := by simp
      generalize (wr.alloc (.cells #[.int .i64 cx] 3)).alloc (.cells #[.int .i64 8] 3) = W0 at *
      refine wpIn_rangeFunc_ownG hro h1 (gf := 26) (lb := #[.pointer (some ⟨wr.heap.size + 1, 0, none⟩), .pointer (some ⟨wr.heap.size, 0, none⟩)]) rfl trivial (enters_of Try.func26 (by kernel_rfl) rfl)
        (each_stops Fence.wide 2 trivial hro (by omega) wr.heap.size (wr.heap.size + 1) cx 8 hcx (by omega) _ bN bS) Two.trans
        (fun W d o o' hd ho hc hw => ⟨World.putObj_heap_other (by omega), World.putObj_heap_other (by omega)⟩) (Below.refl _ _) (fun _ => rfl)
        (fun pre W => (∃ v, Boxed W B 22 v ∧ W.ownsRow w.heap.size 5 1 v (8 * k + pre.length) ((openL (xs.take k) ++ pre).map (Value.int .u8)) ∧ True) ∧ Boxed W wr.heap.size 3 (.int .i64 cx) ∧ Boxed W (wr.heap.size + 1) 3 (.int .i64 ((8 : Nat) : Int)) ∧ Opens w.heap.size wr.heap.size ds W ∧ Below w.heap.size w W)
        (fun _ _ _ => False)
        (OwnFrom.and (Own.from (holdsRow_own w.heap.size B 22 5 1 (fun pre => 8 * k + pre.length) (fun pre => (openL (xs.take k) ++ pre).map (Value.int .u8)) (fun _ _ => True)) _) (OwnFrom.and (Own.from (boxed_own wr.heap.size _ _) _) (OwnFrom.and (Own.from (boxed_own (wr.heap.size + 1) _ _) _) (OwnFrom.and (Opens.own ds (by omega)) (ownFrom_below (Nat.le_refl _) (by omega))))))
        (fun _ _ _ _ _ hs _ _ => hs)
        ⟨⟨_, hv2, by rw [List.append_nil]; exact ownsRow_len hrow2 OL.out, trivial⟩, bN, bS, hop2, hbel2⟩
        (fun y => { tmps := #[.slice (some ⟨b, off, none⟩) l c, undef, .slice none 0 0, .int .i64 0, .pointer (some ⟨B, 0, none⟩), undef, .int .u8 cx, .int .u8 y, .slice (some ⟨b, off, none⟩) l c, .int .i64 l, .bool (decide ((2097152 : Int) < (l : Int))), .slice (some ⟨b, off, none⟩) l c, .int .i64 l,
      .int .i64 (8 * (l : Int)), .slice (some ⟨w.heap.size, 0, none⟩) 0 (8 * l), .slice (some ⟨b, off, none⟩) l c, .int .i64 l, .int .i64 k, .bool true, .pointer (some ⟨b, off + k, none⟩), .int .u8 cx, .int .u8 cx, .int .i64 cx, .func (.func 26) #[] #[.pointer (some ⟨wr.heap.size + 1, 0, none⟩), .pointer (some ⟨wr.heap.size, 0, none⟩)], .int .u8 y, undef, undef, undef, undef, u29, undef], defers := [] }) ?assign ?body ?done ?stop
      case assign =>
        intro l' y W K hK
        gi_wp2
        exact hK
      case body =>
        rintro l' pre y W ⟨⟨v1, hv1, hr1, _⟩, hn1, hs1, hop1, hBW⟩ hlt1
        have hc := hv1.cell
        have hBs : w.heap.size ≤ W.heap.size := hBW.size
        gi_wp2_with (gi_at_builtin; refine wpListIn_append_own _ rfl _ _ 22 rfl w.heap.size 5 i0 (.int .u8 0) 1 1 Try.underlying22 hi hz0 hz1 hz2 rfl (by decide) _ _ _ rfl (hr1.alloc _) ⟨W.heap.size, 0, none⟩ 1 1 [.int .u8 y] rfl rfl (cell_one_new _ _ _) (by simp [Value.oneCell']) (by unfold maxLen; omega) (by omega) (by simp; omega) ?_; intro v' w3 hown' hgrow _; obtain ⟨g', cap', rfl⟩ := ownsRow_succ hown'; obtain ⟨hv1', hv2', hr2, hk2, hb2'⟩ := hv1.appended (by decide) hr1 hBs (by omega) hown' hgrow; have hc1 := hv1'.cell; have hf1 := hv1'.frozen)
        have hnn := hn1.not_row (by decide) hr1
        have hns := hs1.not_row (by decide) hr1
        have hn3 : Boxed (w3.setCell ⟨B, 0, none⟩ (.slice (some ⟨g', 0, none⟩) (8 * k + pre.length + 1) cap')) wr.heap.size 3 (.int .i64 cx) :=
          (((hn1.alloc _).kept hgrow hnn).kept (grownBy_setCell' _ _ _) (by simp; omega))
        have hs3 : Boxed (w3.setCell ⟨B, 0, none⟩ (.slice (some ⟨g', 0, none⟩) (8 * k + pre.length + 1) cap')) (wr.heap.size + 1) 3 (.int .i64 ((8 : Nat) : Int)) :=
          (((hs1.alloc _).kept hgrow hns).kept (grownBy_setCell' _ _ _) (by simp; omega))
        exact ⟨hk2.from _, ⟨hn3.trans hn1.symm, hs3.trans hs1.symm⟩, ⟨_, hv2', by rw [List.length_append, ← List.append_assoc]; simpa [Nat.add_assoc] using hr2, trivial⟩, hn3, hs3, hop1.keeps hk2, hBW.trans hb2'⟩
      case done =>
        rintro D ys W hD rfl ⟨⟨v1, hv1, hr1, _⟩, _, _, hop1, hBW⟩ hK
        have hop3 := hop1.push (D := D) (by omega) (by omega) hK
        have hr3 : Own w.heap.size 5 .u8 W v1 (openL (xs.take (k + 1))) := by
          rw [OT.out, HXK.out, Int.toNat_natCast]
          unfold Proofs.Ytlipmoognbhieaa.Own
          rw [List.length_append, OL.out]
          exact hr1
        gi_wp2
        exact ⟨⟨k + 1, _, v1, _, _, _, _, _, _, _, _, rfl, by omega, hv1, hr3, hop3, hBW⟩, by simp [intOf]; omega⟩
      case stop =>
        rintro D cd pre W _ _ h _
        exact h.elim
    · obtain rfl : k = l := by omega
      rw [List.take_of_length_le (by rw [Hl.out]; omega)] at hrow
      have hc := hv.cell
      gi_wp2
      refine leaves_opens ds wr hop (fun W' hT => ?_)
      refine ⟨_, results_tmp2 rfl _ _ _, v, rfl, hT.own hrow, hT.below hbel⟩

theorem unpack_any (A : Option Addr) (l c : Nat) (xs : List Int) (w : World) (hx : Rd .u8 w A l xs) (hp : ∀ k : Nat, 0 ≤ xs[k]?.getD 0 ∧ xs[k]?.getD 0 ≤ 255) :
    Calls Try.prog 11 #[.slice A l c] w (RetOwnE w 5 .u8 (unpackR xs) (unpackE xs)) := by
  by_cases hbig : 2097152 < l
  · exact unpack_big A l c xs w hx hbig
  · have e1 : unpackE xs = 0 := by unfold unpackE; rw [if_neg (by rw [hx.1]; exact hbig)]
    have e2 : unpackR xs = openL xs := by unfold unpackR; rw [if_neg (by rw [hx.1]; exact hbig)]
    rw [e1, e2]
    exact callsIn_wide.1 (unpack_in A l c xs w hx hbig hp)
end Go.Proofs.Ytlipmoognbhieaa
