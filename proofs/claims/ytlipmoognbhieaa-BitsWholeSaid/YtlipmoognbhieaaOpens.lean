/-
  A range over a function inside a loop: the frame gathers one mark a round; what these marks ask when the function leaves.
-/
import Derived.RangeFuncBox
import Derived.RangeFuncLeaves
import Derived.RangeFuncNested
import Derived.Shelf.Abstract
import Derived.OwnWalkIn
import Derived.TacticsInMore
import Derived.LoopNIn
import Derived.LoopIn
import Derived.Maps.AppendAt
import Derived.Test.YtlipmoognbhieaaBase
namespace Go.Proofs.Ytlipmoognbhieaa
set_option linter.unusedVariables false
open Go.RowKit

/-- Each mark of the frame leads to a block from B on and below L, open and empty; no two are one. -/
def Opens (B L : Nat) (ds : List Deferred) (W : World) : Prop :=
  (∀ d ∈ ds, ∃ D, d = { target := .collected D, args := #[] } ∧ B ≤ D ∧ D < L ∧ W.heap[D]? = some (.deferred (some []))) ∧ ds.Pairwise (· ≠ ·)

theorem Opens.nil (B L : Nat) (W : World) : Opens B L [] W := ⟨fun d hd => absurd hd (by simp), List.Pairwise.nil⟩
theorem Opens.keeps {B L : Nat} {ds : List Deferred} {W W' : World} (h : Opens B L ds W) (hk : KeepsOthers W W') : Opens B L ds W' :=
  ⟨fun d hd => by obtain ⟨D, e, h1, h2, h3⟩ := h.1 d hd; exact ⟨D, e, h1, h2, hk.same D _ h3 rfl⟩, h.2⟩
theorem Opens.more {B L L' : Nat} {ds : List Deferred} {W : World} (h : Opens B L ds W) (hL : L ≤ L') : Opens B L' ds W :=
  ⟨fun d hd => by obtain ⟨D, e, h1, h2, h3⟩ := h.1 d hd; exact ⟨D, e, h1, by omega, h3⟩, h.2⟩
theorem Opens.own {β : Type} {B L B' : Nat} (ds : List Deferred) (hL : L ≤ B') : OwnFrom B' (fun (_ : β) W => Opens B L ds W) := by
  intro s W W' row h hg hrow
  refine ⟨fun d hd => ?_, h.2⟩
  obtain ⟨D, e, h1, h2, h3⟩ := h.1 d hd
  refine ⟨D, e, h1, h2, (hg.block D (Array.getElem?_eq_some_iff.1 h3).1 (fun e' => ?_)).trans h3⟩
  obtain ⟨h4, _⟩ := hrow D e'.symm
  omega
theorem Opens.push {B L D : Nat} {ds : List Deferred} {W : World} (h : Opens B L ds W) (hB : B ≤ D) (hL : L ≤ D) (hK : W.heap[D]? = some (.deferred (some []))) :
    Opens B W.heap.size ({ target := .collected D, args := #[] } :: ds) W := by
  have hlt := (Array.getElem?_eq_some_iff.1 hK).1
  refine ⟨fun d hd => ?_, List.Pairwise.cons (fun d hd e => ?_) h.2⟩
  · rcases List.mem_cons.1 hd with rfl | hd
    · exact ⟨D, rfl, hB, hlt, hK⟩
    · obtain ⟨D', e, h1, h2, h3⟩ := h.1 d hd
      exact ⟨D', e, h1, by omega, h3⟩
  · obtain ⟨D', e', h1, h2, h3⟩ := h.1 d hd
    rw [← e] at e'
    injection e' with e1
    injection e1 with e1
    omega

/-- What the taking of the marks leaves: all cells; all below B. -/
structure Took (B : Nat) (W W' : World) : Prop where
  os : W'.os = W.os
  tape : W'.tape = W.tape
  output : W'.output = W.output
  size : W.heap.size = W'.heap.size
  block : ∀ k, k < B → W'.heap[k]? = W.heap[k]?
  cells : ∀ (k : Nat) (o : Obj), W.heap[k]? = some o → o.isCells = true → W'.heap[k]? = some o
theorem Took.refl (B : Nat) (W : World) : Took B W W := ⟨rfl, rfl, rfl, rfl, fun _ _ => rfl, fun _ _ h _ => h⟩
theorem Took.trans {B : Nat} {X Y Z : World} (h : Took B X Y) (k : Took B Y Z) : Took B X Z :=
  ⟨k.os.trans h.os, k.tape.trans h.tape, k.output.trans h.output, h.size.trans k.size, fun j hj => (k.block j hj).trans (h.block j hj), fun j o ho hc => k.cells j o (h.cells j o ho hc) hc⟩
theorem Took.put {B D : Nat} {W : World} (hB : B ≤ D) (hK : W.heap[D]? = some (.deferred (some []))) : Took B W (W.putObj D (.deferred none)) := by
  refine ⟨rfl, rfl, rfl, by simp [World.putObj], fun k hk => World.putObj_heap_other (by omega), fun k o ho hc => ?_⟩
  have hne : k ≠ D := by
    rintro rfl
    rw [hK] at ho
    injection ho with ho
    subst ho
    cases hc
  exact (World.putObj_heap_other hne).trans ho
theorem Took.below {B : Nat} {w0 W W' : World} (h : Took B W W') (hb : Below B w0 W) : Below B w0 W' :=
  ⟨h.os.trans hb.os, h.tape.trans hb.tape, h.output.trans hb.output, by rw [← h.size]; exact hb.size, fun k hk => (h.block k hk).trans (hb.block k hk)⟩
theorem Took.own {B B' : Nat} {ty : TypeId} {k : IntKind} {W W' : World} {v : Value} {xs : List Int} (h : Took B W W') (ho : Own B' ty k W v xs) : Own B' ty k W' v xs := by
  refine ⟨ho.1, ?_⟩
  rcases ho.2 with h' | ⟨g, cap, cur, hv, hg, hh, r⟩
  · exact .inl h'
  · exact .inr ⟨g, cap, cur, hv, hg, h.cells g _ hh rfl, r⟩

theorem leaves_opens {F : Fence} {n : Nat} {P : Program} {fn : Func} {tmps : Array Value} {R : Ending → World → Prop} {B L : Nat} :
    ∀ (ds : List Deferred) (W : World), Opens B L ds W → (∀ W', Took B W W' → LeavesIn F n P fn tmps R [] .returning W') → LeavesInM F n P fn tmps R ds .returning W
  | [], W, _, hfin => hfin W (Took.refl B W)
  | d :: ds, W, h, hfin => by
    obtain ⟨D, rfl, hB, hL, hK⟩ := h.1 d (by simp)
    refine ⟨by simp, .inl ⟨D, _, rfl, run_takeDeferred hK, ?_⟩⟩
    have hT := Took.put hB hK
    refine leaves_opens (L := L) ds _ ⟨fun d' hd' => ?_, (List.pairwise_cons.1 h.2).2⟩ (fun W' hW' => hfin W' (hT.trans hW'))
    obtain ⟨D', e, h1, h2, h3⟩ := h.1 d' (by simp [hd'])
    refine ⟨D', e, h1, h2, (World.putObj_heap_other (fun e' => ?_)).trans h3⟩
    have := (List.pairwise_cons.1 h.2).1 d' hd'
    rw [e, e'] at this
    exact this rfl
end Go.Proofs.Ytlipmoognbhieaa
