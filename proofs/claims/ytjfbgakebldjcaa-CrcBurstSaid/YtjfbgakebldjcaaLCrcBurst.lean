/-
  The law CrcBurst: bits that are turned, at least one, all of them among 16 that stand one behind the other, give another sum; any text of at most 20000 bytes (the law's own bound), any place, any turns. No condition.
-/
import Derived.Test.YtjfbgakebldjcaaRows
import Derived.WalkKit
import Derived.ProofKit
import Derived.OpenShut
import Derived.ShutString
import Derived.ChangeOld
import Derived.Below
import Derived.Test.YtjfbgakebldjcaaCrcL
import Derived.Test.YtjfbgakebldjcaaCrcR
import Derived.ChangeAlike
namespace Go.Proofs.Ytjfbgakebldjcaa.crcBurst
open Go.ChangeShapes Go.WideShapes Go.ChangeAt Go.RowKit
open Go.ChangeMaps (open_string shut_string)
open Go.Proofs.Ytjfbgakebldjcaa
set_option linter.unusedVariables false

theorem own : ownKnob Try.prog.godebug = none := by kernel_rfl
theorem laidOut : laidOutB Try.prog = true := by kernel_rfl

theorem bits_of {a0 : Option Addr} {len0 : Nat} {xs : List Int} {w : World} (Hx : Hid (Rd .u8 w a0 len0 xs)) (Hin : Hid (In 0 255 xs)) (hn : len0 ≤ 20000) (c : Nat) {w1 : World} (hb : Below w.heap.size w w1) :
    Hid (Calls Try.prog 14 #[.slice a0 len0 c] w1 (RetOwn w1 5 .u8 (xs.map (· % 2)))) :=
  hid (bits_any a0 len0 c xs w1 (Hx.out.below hb (Nat.le_refl _)) (fun k => Hin.out.at_ (by omega) (by omega) k) (by omega))

/-- A bit, turned or not. -/
def turn (x t : Int) (k : Nat) : Int := bits .xor .u8 x (bits .and .u16 (t / 2 ^ k) 1 % 256)
theorem turn_bit {x t : Int} (hx : x = 0 ∨ x = 1) (h0 : 0 ≤ t) (h1 : t ≤ 65535) (k : Nat) : turn x t k = 0 ∨ turn x t k = 1 := by
  unfold turn
  rw [u16_bit t h0 h1]
  have hm : t / 2 ^ k % 2 = 0 ∨ t / 2 ^ k % 2 = 1 := by omega
  rcases hx with rfl | rfl <;> rcases hm with h | h <;> rw [h] <;> decide +kernel
theorem Bt.set_ {xs : List Int} (h : Bt xs) {y : Int} (hy : y = 0 ∨ y = 1) (j : Nat) : Bt (xs.set j y) := fun x hx => by
  rcases List.mem_or_eq_of_mem_set hx with h' | rfl
  · exact h x h'
  · exact hy

theorem bt_in {xs : List Int} (h : Bt xs) : In 0 255 xs := fun x hx => by rcases h x hx with rfl | rfl <;> omega
theorem burst_test {xs ys : List Int} (hx : Bt xs) (hy : Bt ys) (he : ¬ xs = ys) (h : csum 65535 xs = csum 65535 ys → xs = ys) :
    ((((csum 65535 xs : Nat) : Int) == ((csum 65535 ys : Nat) : Int)) == ((bstr xs).toList == (bstr ys).toList)) = true := by
  rw [bstr_beq (bt_in hx) (bt_in hy), decide_eq_false he]
  have hn : ¬ csum 65535 xs = csum 65535 ys := fun e => he (h e)
  have e1 : (((csum 65535 xs : Nat) : Int) == ((csum 65535 ys : Nat) : Int)) = false := by simp; omega
  rw [e1]
  rfl

set_option maxHeartbeats 1600000 in
theorem walk (a0 : Option Addr) (len0 cap0 : Nat) (z0 : List Int) (a1 : Int) (a2 : Int) (w : World) (w0 : IsRow .u8 w a0 len0 cap0 z0) (w1 : (Lit.int .u16 a1).wf = true) (w2 : (Lit.int .u16 a2).wf = true) :
    Calls Try.prog 5 #[.slice a0 len0 cap0, .int .u16 a1, .int .u16 a2] w fun e w' => e = .returned (.bool true) ∧ Below w.heap.size w w' := by
  have Hx := hid w0.rd
  have Hin := hid (In.of_wf_u8 w0.wf)
  have hm0 := w0.len.1
  obtain ⟨hlo, hhi⟩ := wf_u16_bd w1
  obtain ⟨tlo, thi⟩ := wf_u16_bd w2
  unfold maxLen at hm0
  generalize z0.take len0 = xs at Hx Hin
  clear w0 w1 w2
  have H0 := hid (alive_any w)
  by_cases hz : len0 = 0
  · have e0 : ((len0 : Int) == 0) = true := by simp; omega
    go_enter Try.func5, Try.ntmps5
    go_wp2_with fail
    refine H0.out.mono ?_
    rintro e w1 ⟨rfl, hb⟩
    go_wp2
    go_ret
    exact ⟨rfl, hb⟩
  have e0 : ((len0 : Int) == 0) = false := by simp; omega
  have hpos : 0 < len0 := by omega
  clear hz
  by_cases hbig : 20000 < len0
  · go_enter Try.func5, Try.ntmps5
    go_wp2_with fail
    refine H0.out.mono ?_
    rintro e w1 ⟨rfl, hb⟩
    go_wp2
    go_ret
    exact ⟨rfl, hb⟩
  have hbA : Bt (xs.map (· % 2)) := Bt.mod
  have hlA : (xs.map (· % 2)).length = len0 := by rw [List.length_map]; exact Hx.out.1
  have KX := hid (fun (W : World) (hb : Below w.heap.size w W) => bits_of Hx Hin (by omega) cap0 hb)
  generalize xs.map (· % 2) = A at *
  have HA := hid hbA
  have LA := hid hlA
  clear hbA hlA Hx Hin
  obtain ⟨at_, rfl⟩ := Int.eq_ofNat_of_zero_le hlo
  have hfr : at_ % len0 < len0 := Nat.mod_lt _ hpos
  have EF := hid (show ((at_ : Int) % (len0 : Int)) = ((at_ % len0 : Nat) : Int) by push_cast; rfl)
  go_enter Try.func5, Try.ntmps5
  go_wp2_with fail
  refine H0.out.mono ?_
  rintro e w1 ⟨rfl, b1⟩
  clear H0
  go_wp2_with fail
  refine (KX.out _ b1).out.mono ?_
  intro e w2 hr
  obtain ⟨AB, cB, rfl, hownB, hrdB, hnilB, hb2⟩ := hr.opens LA.out
  have b2 := b1.trans (hb2.mono b1.size)
  have s2 := b1.size
  clear hr hnilB hb2 b1
  go_wp2_with fail
  refine (KX.out _ b2).out.mono ?_
  intro e w3 hr
  obtain ⟨AC, cC, rfl, hownC, hrdC, hnilC, hb3⟩ := hr.opens LA.out
  have s3 := b2.size
  clear hr hnilC KX hownB
  obtain ⟨g, rfl⟩ : ∃ g, AC = some ⟨g, 0, none⟩ := by
    rcases hownC.2 with ⟨h, _⟩ | ⟨g, _, _, h, _⟩
    · injection h with _ h2; omega
    · injection h with h; exact ⟨g, h⟩
  clear hrdC
  go_wp2
  rw [EF.out]
  clear EF
  generalize at_ % len0 = first at *
  go_loopw [11] (fun i wr => ∃ k : Nat, ∃ cs : List Int, k ≤ 16 ∧ i = .int .i64 k ∧ Own w2.heap.size 5 .u8 wr (.slice (some ⟨g, 0, none⟩) len0 cC) cs ∧ Hid (cs.length = len0) ∧ Hid (Bt cs) ∧ Hid (∀ j, j < len0 → (j < first ∨ first + k ≤ j) → A[j]? = cs[j]?) ∧ Below w2.heap.size w2 wr) (fun i _ => 16 - (intOf i).toNat)
  case atStart => exact ⟨0, _, Nat.zero_le _, rfl, hownC, LA, HA, hid (fun _ _ _ => rfl), hb3⟩
  case round =>
    obtain ⟨k, cs, hk, rfl, hown, hl, hbt, hall, hbel⟩ := hrel
    by_cases hin : k < 16 ∧ first + k < len0
    · obtain ⟨hlt, hlt2⟩ := hin
      have cw := hown.cellAt hl.out (first + k) hlt2
      have fw := hown.frozenAt hl.out (first + k)
      have hp := hbt.out.pos (first + k)
      obtain ⟨hp0, hp1⟩ := hp
      have hbit : cs[first + k]?.getD 0 = 0 ∨ cs[first + k]?.getD 0 = 1 := by omega
      have Hbit := hid hbit
      clear hbit
      go_wp2
      go_region
      have hbw := hown.blockGe
      obtain ⟨hs1, _⟩ := hown.set_ hl.out (first + k) (turn (cs[first + k]?.getD 0) a2 k)
      have hs1 := hs1.drew
      have hnl : Hid ((cs.set (first + k) (turn (cs[first + k]?.getD 0) a2 k)).length = len0) := hid (by rw [List.length_set]; exact hl.out)
      have hnb : Hid (Bt (cs.set (first + k) (turn (cs[first + k]?.getD 0) a2 k))) := hid (Bt.set_ hbt.out (turn_bit Hbit.out tlo thi k) _)
      have hna : Hid (∀ j, j < len0 → (j < first ∨ first + (k + 1) ≤ j) → A[j]? = (cs.set (first + k) (turn (cs[first + k]?.getD 0) a2 k))[j]?) := hid (fun j hj h => by
        rw [List.getElem?_set_ne (by omega)]
        exact hall.out j hj (by omega))
      have hbel' := (hbel.setCell (p := ⟨g, first + k, none⟩) hbw.1 (.int .u8 (turn (cs[first + k]?.getD 0) a2 k))).drew
      unfold turn at hs1 hbel' hnl hnb hna
      go_wp2
      go_roundw
      case rel => exact ⟨k + 1, _, by omega, by go_num, hs1, hnl, hnb, hna, hbel'⟩
      case measure => simp [intOf]; omega
    · have hagree : ∀ j, j < A.length → (j < first ∨ first + 16 ≤ j) → A[j]? = cs[j]? := fun j hj h => hall.out j (by rw [LA.out] at hj; exact hj) (by rw [LA.out] at hj; omega)
      have BU := hid (fun h => csum_burst (s := 65535) (by omega) HA.out hbt.out (by rw [LA.out, hl.out]) hagree h)
      clear hagree hall
      have b4 := b2.trans (hbel.mono s3)
      have SA : Hid (overS 65535 A = ((csum 65535 A : Nat) : Int)) := hid (overS_ok (by omega) (by omega) HA.out.bitsB)
      have SC : Hid (overS 65535 cs = ((csum 65535 cs : Nat) : Int)) := hid (overS_ok (by omega) (by omega) hbt.out.bitsB)
      have EA := hid (overE_ok (sum := 65535) (by omega) (by omega) HA.out.bitsB)
      have EC := hid (overE_ok (sum := 65535) (by omega) (by omega) hbt.out.bitsB)
      have hrdB4 := hrdB.below hbel (Nat.le_refl _)
      obtain ⟨AW, cW, hv, hrdC4, _, _⟩ := hown.forms hl.out
      injection hv with hv1 hv2 hv3
      subst hv1 hv3
      clear hv2 hown hownC hrdB b2 hb3
      have fin : ∀ e0 w0, ((e0 = Ending.returned (.tuple #[.int .i64 (overS 65535 A), .int .i64 (overE 65535 A)])) ∧ Below wr.heap.size wr w0) → True := fun _ _ _ => trivial
      clear fin
      by_cases hk16 : k < 16
      all_goals
        go_wp2_with fail
        refine (crc_of AB len0 cB A wr hrdB4 (fun j => (HA.out.pos j).1) (by omega)).mono ?_
        rintro e w5 ⟨rfl, hb5⟩
        have b5 := b4.trans (hb5.mono b4.size)
        have hrdB5 := hrdB4.below hb5 (Nat.le_refl _)
        have hrdC5 := hrdC4.below hb5 (Nat.le_refl _)
        clear hrdB4 hrdC4 hb5 b4
        rw [SA.out, EA.out]
        go_wp2_with fail
        refine (crc_of _ len0 cC cs w5 hrdC5 (fun j => (hbt.out.pos j).1) (by omega)).mono ?_
        rintro e w6 ⟨rfl, hb6⟩
        have b6 := b5.trans (hb6.mono b5.size)
        have hrdB6 := hrdB5.below hb6 (Nat.le_refl _)
        have hrdC6 := hrdC5.below hb6 (Nat.le_refl _)
        have hcB := run_bytes_str (P := Try.prog) Try.underlying25 Try.underlying5 Try.underlying9 hrdB6 cB
        have hcC := run_bytes_str (P := Try.prog) Try.underlying25 Try.underlying5 Try.underlying9 hrdC6 cC
        clear hrdB5 hrdC5 hb6 b5 hrdB6 hrdC6
        rw [SC.out, EC.out]
        clear SA SC EA EC
        by_cases he : A = cs
        · subst he
          clear BU
          go_wp2
          go_ret
          exact ⟨rfl, b6⟩
        · go_wp2
          go_ret
          exact ⟨retB (burst_test HA.out hbt.out he BU.out), b6⟩

/-! ### THE ROW's STEP: WRITTEN OUT: LEAVE IT -/
set_option maxRecDepth 100000 in
theorem lifted (os : Os) (started : os.Started) (H : Type) (enc : TypeId × Value → H) :
    ReturnsInHanded {} Try.checked os 5 .any (Rows.crcBurstSpec.pre6 enc Try.prog Try.f5 Rows.crcBurstRow.domain false) (Rows.crcBurstSpec.post enc Try.prog Try.f5 false true false false) := by
  refine returnsInHanded_of_change (C := Try.checked) own started (by kernel_rfl) Try.func5
    (ChangeSpec.witness6 (enc := enc) (C := Try.checked) false ⟨#[], #[.slice none 0 0, .int .u16 0, .int .u16 0], []⟩ 8 (by kernel_rfl) (by kernel_rfl) (by kernel_rfl) (by kernel_rfl)) ?_
  intro W base args ds gs before hval0 hW hcnd _
  have hval : ∀ (j : Nat) t v, Try.f5.params[j]? = some t → args[j]? = some v → Value.okWide Try.prog W .any base t v := hval0
  have hW' := hW
  obtain ⟨p, q, hA0, hV, rfl, hfz, hnd⟩ := hW
  have hA : DataW.TrodAll enc Try.prog W 0 (fun _ => true) true Try.f5.params.toList args.toList ds p := hA0
  rw [Try.params5] at hA hval
  obtain ⟨v0, vs0, d0, ds0, p0, q0, hargs, rfl, rfl, h0, r0⟩ := trodAll_cons hA
  obtain ⟨v1, vs1, d1, ds1, p1, q1, rfl, rfl, rfl, h1, r1⟩ := trodAll_cons r0
  obtain ⟨v2, vs2, d2, ds2, p2, q2, rfl, rfl, rfl, h2, r2⟩ := trodAll_cons r1
  obtain ⟨rfl, rfl, rfl⟩ := trodAll_nil r2
  obtain rfl : args = #[v0, v1, v2] := by cases args; simp_all
  obtain ⟨rfl, rfl⟩ := trodVars_none hV
  obtain ⟨a0, len0, cap0, rfl⟩ := okWide_slice Try.underlying25 (hval 0 25 v0 rfl rfl)
  have k0 := h0
  have lt0 : ∀ x ∈ p0, x.block < W.heap.size := by obtain ⟨m, hm⟩ := k0; exact DataW.trod_lt m _ _ _ hm
  obtain ⟨z0, w0⟩ : ∃ zs, IsRow .u8 W a0 len0 cap0 zs := by
    obtain ⟨fuel, hf⟩ := h0
    rcases open_ints Try.underlying25 Try.underlying5 (by kernel_rfl) hf with ⟨hcs, _⟩ | ⟨x, l, c, zs, hcs, _, hl, hm, hz, _, hcell, hwz⟩
    · simp [Value.cells] at hcs
      obtain ⟨rfl, rfl, rfl⟩ := hcs
      exact ⟨[], .inl ⟨rfl, rfl, rfl, rfl⟩⟩
    · simp [Value.cells] at hcs
      obtain ⟨rfl, rfl, rfl⟩ := hcs
      exact ⟨zs, .inr ⟨_, rfl, hl, hm, by simpa using hz, hcell, hwz⟩⟩
  obtain ⟨a1, rfl, rfl, rfl, w1⟩ := open_int Try.underlying32 (hval 1 32 v1 rfl rfl) h1
  obtain ⟨a2, rfl, rfl, rfl, w2⟩ := open_int Try.underlying32 (hval 2 32 v2 rfl rfl) h2
  clear hA0 hval0
  refine (walk a0 len0 cap0 z0 a1 a2 W w0 w1 w2).mono fun e W' ⟨he, bel⟩ => ?_
  subst he
  exact ⟨_, rfl, _, _, _, [], _, [], hW', trodAll_mk1 (shut_bool Try.underlying4 _), (trodAll_cons_mk (Below.trod laidOut (by kernel_rfl) (of_decide_eq_true (by kernel_rfl)) k0 bel lt0) (trodAll_cons_mk (shut_int Try.underlying32 w1) (trodAll_cons_mk (shut_int Try.underlying32 w2) trodAll_mk0))), rfl, bel.frame _, fun h => by cases h⟩

theorem over : Rows.crcBurstRow.holds Try.pinned (OpenSpec.ofChange Rows.crcBurstSpec) :=
  OpenClaim.holds_of_wide 5 Try.f5 rfl rfl rfl rfl rfl rfl rfl ⟨rfl, rfl, rfl, rfl, rfl⟩ rfl rfl rfl rfl rfl (by kernel_rfl) Try.func5 (by kernel_rfl)
    (of_decide_eq_true (by kernel_rfl)) (by unfold Func.isWrapper; first | (rw [if_pos (by decide +kernel)]; kernel_rfl) | (rw [if_neg (by decide +kernel)]; exact ⟨rfl, rfl⟩))
    (fun os started H enc _ => lifted os started H enc)

/-- ████ THE STATEMENT ████ -/
theorem proved : Rows.CrcBurstSaid := over
#print axioms proved
end Go.Proofs.Ytjfbgakebldjcaa.crcBurst
