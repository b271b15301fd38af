/-
  The law CrcEnds: bits with their sum behind, as sixteen bits, have the sum 0, and with no other sixteen bits behind; any text of at most 20000 bytes (the law's own bound), any number. No condition.
-/
import Derived.Test.YtjfbgakebldjcaaRows
import Derived.WalkKit
import Derived.ProofKit
import Derived.OpenShut
import Derived.ShutString
import Derived.ChangeOld
import Derived.Below
import Derived.Test.YtjfbgakebldjcaaCrcL
import Derived.Test.YtjfbgakebldjcaaCrcR
namespace Go.Proofs.Ytjfbgakebldjcaa.crcEnds
open Go.ChangeShapes Go.WideShapes Go.ChangeAt Go.RowKit
open Go.ChangeMaps (open_string shut_string)
open Go.Proofs.Ytjfbgakebldjcaa
set_option linter.unusedVariables false

theorem own : ownKnob Try.prog.godebug = none := by kernel_rfl
theorem laidOut : laidOutB Try.prog = true := by kernel_rfl

set_option maxHeartbeats 800000 in
theorem walk (a0 : Option Addr) (len0 cap0 : Nat) (z0 : List Int) (a1 : Int) (w : World) (w0 : IsRow .u8 w a0 len0 cap0 z0) (w1 : (Lit.int .u16 a1).wf = true) :
    Calls Try.prog 8 #[.slice a0 len0 cap0, .int .u16 a1] w fun e w' => e = .returned (.bool true) ∧ Below w.heap.size w w' := by
  have hx := w0.rd
  have hin := In.of_wf_u8 w0.wf
  have hm := w0.len.1
  obtain ⟨hlo, hhi⟩ := wf_u16_bd w1
  unfold maxLen at hm
  generalize z0.take len0 = xs at hx hin
  clear w0 w1
  have H0 := hid (alive_any w)
  by_cases hbig : 20000 < len0
  · clear hx hin
    go_enter Try.func8, Try.ntmps8
    go_wp2_with fail
    refine H0.out.mono ?_
    rintro e w1 ⟨rfl, hb⟩
    go_wp2
    go_ret
    exact ⟨rfl, hb⟩
  · have Hx := hid hx
    have Hin := hid hin
    clear hx hin
    go_enter Try.func8, Try.ntmps8
    go_wp2_with fail
    refine H0.out.mono ?_
    rintro e w1 ⟨rfl, hb⟩
    clear H0
    have r1 := hid (bits_any a0 len0 cap0 xs w1 (Hx.out.below hb (Nat.le_refl _)) (fun k => Hin.out.at_ (by omega) (by omega) k) (by omega))
    go_wp2_with fail
    refine r1.out.mono ?_
    intro e w2 hr
    obtain ⟨A, c, rfl, hown, hrd, hnil, hb2⟩ := hr.opens (n := len0) (by rw [List.length_map]; exact Hx.out.1)
    clear r1 hr
    have hbt : Bt (xs.map (· % 2)) := Bt.mod
    have Hl := hid (show (xs.map (· % 2)).length = len0 by rw [List.length_map]; exact Hx.out.1)
    generalize xs.map (· % 2) = ys at *
    have Hbt := hid hbt
    clear hbt
    have b2 := hb.trans (hb2.mono hb.size)
    have r2 := hid (crc_of A len0 c ys w2 hrd (fun k => (Hbt.out.pos k).1) (by omega))
    go_wp2_with fail
    refine r2.out.mono ?_
    rintro e w3 ⟨rfl, hb3⟩
    clear r2
    have b3 := b2.trans (hb3.mono b2.size)
    have hown3 := (hown.below hb3 (Nat.le_refl _)).mono hb.size
    clear hown hrd hb3
    have hEs := hid (overS_ok (sum := 65535) (by omega) (by omega) Hbt.out.bitsB)
    have hEe := hid (overE_ok (sum := 65535) (by omega) (by omega) Hbt.out.bitsB)
    rw [hEs.out, hEe.out]
    go_wp2
    go_loopw [9, 10] (fun v i wr => ∃ k : Nat, k ≤ 16 ∧ i = .int .i64 (15 - (k : Int)) ∧ Own w3.heap.size 5 .u8 wr v ((List.range k).map fun i => a1 / 2 ^ (15 - i) % 2) ∧ Below w3.heap.size w3 wr) (fun _ i _ => (intOf i + 1).toNat)
    case atStart => exact ⟨0, by omega, rfl, Own.none_, Below.refl _ _⟩
    case round =>
      obtain ⟨k, hk, rfl, ht, hbt⟩ := hrel
      by_cases hlt : k < 16
      · have hlen : ((List.range k).map fun i => a1 / 2 ^ (15 - i) % 2).length < 17592186044416 := by simp; omega
        have hge : (0 : Int) ≤ 15 - (k : Int) := by omega
        go_wp2_with (first | (at_builtin; refine wpList_push _ rfl _ _ _ rfl 5 .u8 1 Try.underlying25 Try.info_u8 (by omega) w3.heap.size w3 _ _ _ ht hbt hbt.size hlen rfl rfl ?_; intro v' w4 ht4 hbt4 _ _))
        rw [u16_bit a1 hlo hhi] at ht4
        refine ⟨⟨k + 1, by omega, by congr 1; omega, ?_, hbt4⟩, by simp [intOf]; omega⟩
        rw [List.range_succ, List.map_append]
        exact ht4
      · obtain rfl : k = 16 := by omega
        have hown4 := hown3.below hbt (Nat.le_refl _)
        have ht' : Own w3.heap.size 5 .u8 wr u9 (tail16 a1) := ht
        obtain ⟨At, ct, rfl, hrt, _, hnilt⟩ := ht'.forms (n := 16) (by simp [tail16])
        clear ht ht' hown3
        have b4 := b3.trans (hbt.mono b3.size)
        have hbs := b4.size
        go_wp2_with (first | (at_builtin; refine wpList_join _ rfl _ _ _ rfl 5 .u8 1 Try.underlying25 Try.info_u8 (by omega) w.heap.size w _ _ _ _ _ _ hown4 hrt hnilt b4 hbs (by rw [Hl.out]; omega) rfl rfl ?_; intro v5 w5 hown5 b5 _ _))
        obtain ⟨A5, c5, rfl, hrd5, _, _⟩ := hown5.forms (n := len0 + 16) (by rw [List.length_append, Hl.out]; rfl)
        have hbt5 := Bt.append Hbt.out (Bt.tail16 a1)
        have r5 := hid (crc_of A5 _ c5 _ w5 hrd5 (fun k => (hbt5.pos k).1) (by omega))
        obtain ⟨t, rfl⟩ := Int.eq_ofNat_of_zero_le hlo
        have he := csum_ends (s := 65535) (t := t) (xs := ys) (by omega) (by omega)
        have hFs := hid (overS_ok (sum := 65535) (by omega) (by omega) hbt5.bitsB)
        have hFe := hid (overE_ok (sum := 65535) (by omega) (by omega) hbt5.bitsB)
        clear hown5 hrd5 hown4 hrt
        refine r5.out.mono ?_
        rintro e w6 ⟨rfl, hb6⟩
        rw [hFs.out, hFe.out]
        have b6 := b5.trans (hb6.mono b5.size)
        rw [show Int.toNat 65535 = 65535 from rfl] at *
        clear r5 hFs hFe hEs hEe
        generalize csum 65535 (ys ++ tail16 ↑t) = y at *
        generalize csum 65535 ys = x at *
        by_cases hy : y = 0
        · have hx : t = x := he.1 hy
          subst hx hy
          clear he
          go_wp2
          go_ret
          exact ⟨rfl, b6⟩
        · have hx : ¬ t = x := fun h => hy (he.2 h)
          have e1 : ((y : Int) == 0) = false := by simp; omega
          have e2 : ((t : Int) == (x : Int)) = false := by simp; omega
          clear he
          go_wp2
          go_ret
          exact ⟨rfl, b6⟩

/-! ### THE ROW's STEP: WRITTEN OUT: LEAVE IT -/
set_option maxRecDepth 100000 in
theorem lifted (os : Os) (started : os.Started) (H : Type) (enc : TypeId × Value → H) :
    ReturnsInHanded {} Try.checked os 8 .any (Rows.crcEndsSpec.pre6 enc Try.prog Try.f8 Rows.crcEndsRow.domain false) (Rows.crcEndsSpec.post enc Try.prog Try.f8 false true false false) := by
  refine returnsInHanded_of_change (C := Try.checked) own started (by kernel_rfl) Try.func8
    (ChangeSpec.witness6 (enc := enc) (C := Try.checked) false ⟨#[], #[.slice none 0 0, .int .u16 0], []⟩ 8 (by kernel_rfl) (by kernel_rfl) (by kernel_rfl) (by kernel_rfl)) ?_
  intro W base args ds gs before hval0 hW hcnd _
  have hval : ∀ (j : Nat) t v, Try.f8.params[j]? = some t → args[j]? = some v → Value.okWide Try.prog W .any base t v := hval0
  have hW' := hW
  obtain ⟨p, q, hA0, hV, rfl, hfz, hnd⟩ := hW
  have hA : DataW.TrodAll enc Try.prog W 0 (fun _ => true) true Try.f8.params.toList args.toList ds p := hA0
  rw [Try.params8] at hA hval
  obtain ⟨v0, vs0, d0, ds0, p0, q0, hargs, rfl, rfl, h0, r0⟩ := trodAll_cons hA
  obtain ⟨v1, vs1, d1, ds1, p1, q1, rfl, rfl, rfl, h1, r1⟩ := trodAll_cons r0
  obtain ⟨rfl, rfl, rfl⟩ := trodAll_nil r1
  obtain rfl : args = #[v0, v1] := by cases args; simp_all
  obtain ⟨rfl, rfl⟩ := trodVars_none hV
  obtain ⟨a0, len0, cap0, rfl⟩ := okWide_slice Try.underlying25 (hval 0 25 v0 rfl rfl)
  have k0 := h0
  have lt0 : ∀ x ∈ p0, x.block < W.heap.size := by obtain ⟨m, hm⟩ := k0; exact DataW.trod_lt m _ _ _ hm
  obtain ⟨z0, w0⟩ : ∃ zs, IsRow .u8 W a0 len0 cap0 zs := by
    obtain ⟨fuel, hf⟩ := h0
    rcases open_ints Try.underlying25 Try.underlying5 (by kernel_rfl) hf with ⟨hcs, _⟩ | ⟨x, l, c, zs, hcs, _, hl, hm, hz, _, hcell, hwz⟩
    · simp [Value.cells] at hcs
      obtain ⟨rfl, rfl, rfl⟩ := hcs
      exact ⟨[], .inl ⟨rfl, rfl, rfl, rfl⟩⟩
    · simp [Value.cells] at hcs
      obtain ⟨rfl, rfl, rfl⟩ := hcs
      exact ⟨zs, .inr ⟨_, rfl, hl, hm, by simpa using hz, hcell, hwz⟩⟩
  obtain ⟨a1, rfl, rfl, rfl, w1⟩ := open_int Try.underlying32 (hval 1 32 v1 rfl rfl) h1
  clear hA0 hval0
  refine (walk a0 len0 cap0 z0 a1 W w0 w1).mono fun e W' ⟨he, bel⟩ => ?_
  subst he
  exact ⟨_, rfl, _, _, _, [], _, [], hW', trodAll_mk1 (shut_bool Try.underlying4 _), (trodAll_cons_mk (Below.trod laidOut (by kernel_rfl) (of_decide_eq_true (by kernel_rfl)) k0 bel lt0) (trodAll_cons_mk (shut_int Try.underlying32 w1) trodAll_mk0)), rfl, bel.frame _, fun h => by cases h⟩

theorem over : Rows.crcEndsRow.holds Try.pinned (OpenSpec.ofChange Rows.crcEndsSpec) :=
  OpenClaim.holds_of_wide 8 Try.f8 rfl rfl rfl rfl rfl rfl rfl ⟨rfl, rfl, rfl, rfl, rfl⟩ rfl rfl rfl rfl rfl (by kernel_rfl) Try.func8 (by kernel_rfl)
    (of_decide_eq_true (by kernel_rfl)) (by unfold Func.isWrapper; first | (rw [if_pos (by decide +kernel)]; kernel_rfl) | (rw [if_neg (by decide +kernel)]; exact ⟨rfl, rfl⟩))
    (fun os started H enc _ => lifted os started H enc)

/-- ████ THE STATEMENT ████ -/
theorem proved : Rows.CrcEndsSaid := over
#print axioms proved
end Go.Proofs.Ytjfbgakebldjcaa.crcEnds
