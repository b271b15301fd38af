import Derived.Test.YtmkgfgdipkagbaaBitsI
/-
  The walks of package bits: Put and Get.
-/
namespace Go.Proofs.Ytmkgfgdipkagbaa
set_option linter.unusedVariables false
open Go.RowKit

/-- The call returned one row of its own and an error's number. -/
def RetOwnE (W : World) (ty : TypeId) (k : IntKind) (xs : List Int) (err : Int) (e : Ending) (w' : World) : Prop :=
  ∃ v, e = .returned (.tuple #[v, .int .i64 err]) ∧ Own W.heap.size ty k w' v xs ∧ Below W.heap.size W w'

theorem Own.empty {B : Nat} {ty : TypeId} {k : IntKind} (w : World) (hB : B ≤ w.heap.size) : Own B ty k (w.alloc (.cells #[] ty)) (.slice (some ⟨w.heap.size, 0, none⟩) 0 0) [] :=
  World.ownsRow_lit w #[] 0 hB (by unfold maxLen; omega) rfl

end Go.Proofs.Ytmkgfgdipkagbaa

