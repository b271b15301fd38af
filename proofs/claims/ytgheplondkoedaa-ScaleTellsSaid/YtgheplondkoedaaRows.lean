/-
  No cell of these rows narrows 'for every input' (looked for: loops, veiled, ifaces, maps, wideKeys, modest, calm, conditions, laid).
  DERIVED. THE GIVEN ROWS OF THIS SEAT. 11 by the template 'for every input the law returns true; each argument reads behind the call as it read before'; 0 by the template 'total and deterministic' (their statements: YtgheplondkoedaaTotals.lean).
  GIVEN WITH THE SEED: the statements are not yours to turn. If you find one false, say at which input.
  Laid BY PROGRAM, IN A SANDBOX (cutbox-rows.mjs): the forced cells as the released guide's own fill.sh prints them over the translation c7974d36d94d0f7c… (all of the seat's roots in one cut). By AI agents, Wed Nov 11 2026. No macro, syntax, notation, axiom, sorry.
-/
import Derived.Test.YtgheplondkoedaaChecked
import GoSem.Claim
import GoSem.ClaimJoined
import GoSem.ClaimMapViews
import Derived.JoinedTies
import Derived.KernelRfl
namespace Go.Proofs.Ytgheplondkoedaa
/- THE CELL 'sum', in the pinned program and in every row, IS THE sha256 OF THE DUMP (.gsa) THAT YtgheplondkoedaaProg.lean LOADS. Nothing in Lean hashes anything: it is a label: what it is worth is what the hold of that sum in a sandbox is worth. -/
noncomputable def Try.pinned : Pinned := { name := "ytgheplondkoedaa", sum := "c7974d36d94d0f7cc4c6f0dbe5d34eefa8ac48aee85abaa870a5961da56cb7cd", checked := Try.checked }
namespace Rows
def none {H : Type} : Left H := { results := [], args := [] }

/-- 'reedpipelaw09.HuffTells': WHATEVER THE INPUT: true; the input reads as it did. -/
def huffTellsSpec : ChangeSpec := { name := "huffTells", fn := fun _ => fun
  | [d1, d2, d3, d4] => { results := [.lit (.bool true)], args := [d1, d2, d3, d4] }
  | _ => none }
def huffTellsRow : OpenClaim := { program := "ytgheplondkoedaa", sum := "c7974d36d94d0f7cc4c6f0dbe5d34eefa8ac48aee85abaa870a5961da56cb7cd", func := "reedpipe/reedpipelaw09.HuffTells", spec := "huffTells", unfollowed := true, recurses := true, apart := false }
def HuffTellsSaid : Prop := huffTellsRow.holds Try.pinned (OpenSpec.ofChange huffTellsSpec)

/-- ITS FALSE NEIGHBOUR: 'it returns false'. Refute it at one input. -/
def huffTellsWrong : ChangeSpec := { name := "huffTells", fn := fun _ => fun
  | [d1, d2, d3, d4] => { results := [.lit (.bool false)], args := [d1, d2, d3, d4] }
  | _ => none }
def HuffTellsWrongFalsely : Prop := huffTellsRow.holds Try.pinned (OpenSpec.ofChange huffTellsWrong)

/-- 'reedpipelaw09.HuffSteps': WHATEVER THE INPUT: true; the input reads as it did. -/
def huffStepsSpec : ChangeSpec := { name := "huffSteps", fn := fun _ => fun
  | [d1, d2, d3] => { results := [.lit (.bool true)], args := [d1, d2, d3] }
  | _ => none }
def huffStepsRow : OpenClaim := { program := "ytgheplondkoedaa", sum := "c7974d36d94d0f7cc4c6f0dbe5d34eefa8ac48aee85abaa870a5961da56cb7cd", func := "reedpipe/reedpipelaw09.HuffSteps", spec := "huffSteps", unfollowed := true, recurses := true, apart := false }
def HuffStepsSaid : Prop := huffStepsRow.holds Try.pinned (OpenSpec.ofChange huffStepsSpec)

/-- ITS FALSE NEIGHBOUR: 'it returns false'. Refute it at one input. -/
def huffStepsWrong : ChangeSpec := { name := "huffSteps", fn := fun _ => fun
  | [d1, d2, d3] => { results := [.lit (.bool false)], args := [d1, d2, d3] }
  | _ => none }
def HuffStepsWrongFalsely : Prop := huffStepsRow.holds Try.pinned (OpenSpec.ofChange huffStepsWrong)

/-- 'reedpipelaw20.ScaleCuts': WHATEVER THE INPUT: true; the input reads as it did. -/
def scaleCutsSpec : ChangeSpec := { name := "scaleCuts", fn := fun _ => fun
  | [d1, d2, d3] => { results := [.lit (.bool true)], args := [d1, d2, d3] }
  | _ => none }
def scaleCutsRow : OpenClaim := { program := "ytgheplondkoedaa", sum := "c7974d36d94d0f7cc4c6f0dbe5d34eefa8ac48aee85abaa870a5961da56cb7cd", func := "reedpipe/reedpipelaw20.ScaleCuts", spec := "scaleCuts", unfollowed := true, recurses := true, apart := false }
def ScaleCutsSaid : Prop := scaleCutsRow.holds Try.pinned (OpenSpec.ofChange scaleCutsSpec)

/-- ITS FALSE NEIGHBOUR: 'it returns false'. Refute it at one input. -/
def scaleCutsWrong : ChangeSpec := { name := "scaleCuts", fn := fun _ => fun
  | [d1, d2, d3] => { results := [.lit (.bool false)], args := [d1, d2, d3] }
  | _ => none }
def ScaleCutsWrongFalsely : Prop := scaleCutsRow.holds Try.pinned (OpenSpec.ofChange scaleCutsWrong)

/-- 'reedpipelaw20.ScaleFlat': WHATEVER THE INPUT: true; the input reads as it did. -/
def scaleFlatSpec : ChangeSpec := { name := "scaleFlat", fn := fun _ => fun
  | [d1, d2] => { results := [.lit (.bool true)], args := [d1, d2] }
  | _ => none }
def scaleFlatRow : OpenClaim := { program := "ytgheplondkoedaa", sum := "c7974d36d94d0f7cc4c6f0dbe5d34eefa8ac48aee85abaa870a5961da56cb7cd", func := "reedpipe/reedpipelaw20.ScaleFlat", spec := "scaleFlat", unfollowed := true, recurses := true, apart := false }
def ScaleFlatSaid : Prop := scaleFlatRow.holds Try.pinned (OpenSpec.ofChange scaleFlatSpec)

/-- ITS FALSE NEIGHBOUR: 'it returns false'. Refute it at one input. -/
def scaleFlatWrong : ChangeSpec := { name := "scaleFlat", fn := fun _ => fun
  | [d1, d2] => { results := [.lit (.bool false)], args := [d1, d2] }
  | _ => none }
def ScaleFlatWrongFalsely : Prop := scaleFlatRow.holds Try.pinned (OpenSpec.ofChange scaleFlatWrong)

/-- 'reedpipelaw09.HuffSigns': WHATEVER THE INPUT: true; the input reads as it did. -/
def huffSignsSpec : ChangeSpec := { name := "huffSigns", fn := fun _ => fun
  | [d1, d2] => { results := [.lit (.bool true)], args := [d1, d2] }
  | _ => none }
def huffSignsRow : OpenClaim := { program := "ytgheplondkoedaa", sum := "c7974d36d94d0f7cc4c6f0dbe5d34eefa8ac48aee85abaa870a5961da56cb7cd", func := "reedpipe/reedpipelaw09.HuffSigns", spec := "huffSigns", unfollowed := true, recurses := true, apart := false }
def HuffSignsSaid : Prop := huffSignsRow.holds Try.pinned (OpenSpec.ofChange huffSignsSpec)

/-- ITS FALSE NEIGHBOUR: 'it returns false'. Refute it at one input. -/
def huffSignsWrong : ChangeSpec := { name := "huffSigns", fn := fun _ => fun
  | [d1, d2] => { results := [.lit (.bool false)], args := [d1, d2] }
  | _ => none }
def HuffSignsWrongFalsely : Prop := huffSignsRow.holds Try.pinned (OpenSpec.ofChange huffSignsWrong)

/-- 'reedpipelaw20.ScaleNames': WHATEVER THE INPUT: true; the input reads as it did. -/
def scaleNamesSpec : ChangeSpec := { name := "scaleNames", fn := fun _ => fun
  | [] => { results := [.lit (.bool true)], args := [] }
  | _ => none }
def scaleNamesRow : OpenClaim := { program := "ytgheplondkoedaa", sum := "c7974d36d94d0f7cc4c6f0dbe5d34eefa8ac48aee85abaa870a5961da56cb7cd", func := "reedpipe/reedpipelaw20.ScaleNames", spec := "scaleNames", unfollowed := true, recurses := true, apart := false }
def ScaleNamesSaid : Prop := scaleNamesRow.holds Try.pinned (OpenSpec.ofChange scaleNamesSpec)

/-- ITS FALSE NEIGHBOUR: 'it returns false'. Refute it at one input. -/
def scaleNamesWrong : ChangeSpec := { name := "scaleNames", fn := fun _ => fun
  | [] => { results := [.lit (.bool false)], args := [] }
  | _ => none }
def ScaleNamesWrongFalsely : Prop := scaleNamesRow.holds Try.pinned (OpenSpec.ofChange scaleNamesWrong)

/-- 'reedpipelaw20.ScaleTells': WHATEVER THE INPUT: true; the input reads as it did. -/
def scaleTellsSpec : ChangeSpec := { name := "scaleTells", fn := fun _ => fun
  | [d1, d2, d3, d4, d5] => { results := [.lit (.bool true)], args := [d1, d2, d3, d4, d5] }
  | _ => none }
def scaleTellsRow : OpenClaim := { program := "ytgheplondkoedaa", sum := "c7974d36d94d0f7cc4c6f0dbe5d34eefa8ac48aee85abaa870a5961da56cb7cd", func := "reedpipe/reedpipelaw20.ScaleTells", spec := "scaleTells", unfollowed := true, recurses := true, apart := false }
def ScaleTellsSaid : Prop := scaleTellsRow.holds Try.pinned (OpenSpec.ofChange scaleTellsSpec)

/-- ITS FALSE NEIGHBOUR: 'it returns false'. Refute it at one input. -/
def scaleTellsWrong : ChangeSpec := { name := "scaleTells", fn := fun _ => fun
  | [d1, d2, d3, d4, d5] => { results := [.lit (.bool false)], args := [d1, d2, d3, d4, d5] }
  | _ => none }
def ScaleTellsWrongFalsely : Prop := scaleTellsRow.holds Try.pinned (OpenSpec.ofChange scaleTellsWrong)

/-- 'reedpipelaw20.ScaleBack': WHATEVER THE INPUT: true; the input reads as it did. -/
def scaleBackSpec : ChangeSpec := { name := "scaleBack", fn := fun _ => fun
  | [d1, d2, d3, d4, d5, d6] => { results := [.lit (.bool true)], args := [d1, d2, d3, d4, d5, d6] }
  | _ => none }
def scaleBackRow : OpenClaim := { program := "ytgheplondkoedaa", sum := "c7974d36d94d0f7cc4c6f0dbe5d34eefa8ac48aee85abaa870a5961da56cb7cd", func := "reedpipe/reedpipelaw20.ScaleBack", spec := "scaleBack", unfollowed := true, recurses := true, apart := false }
def ScaleBackSaid : Prop := scaleBackRow.holds Try.pinned (OpenSpec.ofChange scaleBackSpec)

/-- ITS FALSE NEIGHBOUR: 'it returns false'. Refute it at one input. -/
def scaleBackWrong : ChangeSpec := { name := "scaleBack", fn := fun _ => fun
  | [d1, d2, d3, d4, d5, d6] => { results := [.lit (.bool false)], args := [d1, d2, d3, d4, d5, d6] }
  | _ => none }
def ScaleBackWrongFalsely : Prop := scaleBackRow.holds Try.pinned (OpenSpec.ofChange scaleBackWrong)

/-- 'reedpipelaw09.HuffNames': WHATEVER THE INPUT: true; the input reads as it did. -/
def huffNamesSpec : ChangeSpec := { name := "huffNames", fn := fun _ => fun
  | [] => { results := [.lit (.bool true)], args := [] }
  | _ => none }
def huffNamesRow : OpenClaim := { program := "ytgheplondkoedaa", sum := "c7974d36d94d0f7cc4c6f0dbe5d34eefa8ac48aee85abaa870a5961da56cb7cd", func := "reedpipe/reedpipelaw09.HuffNames", spec := "huffNames", unfollowed := true, recurses := true, apart := false }
def HuffNamesSaid : Prop := huffNamesRow.holds Try.pinned (OpenSpec.ofChange huffNamesSpec)

/-- ITS FALSE NEIGHBOUR: 'it returns false'. Refute it at one input. -/
def huffNamesWrong : ChangeSpec := { name := "huffNames", fn := fun _ => fun
  | [] => { results := [.lit (.bool false)], args := [] }
  | _ => none }
def HuffNamesWrongFalsely : Prop := huffNamesRow.holds Try.pinned (OpenSpec.ofChange huffNamesWrong)

/-- 'reedpipelaw09.HuffStepBack': WHATEVER THE INPUT: true; the input reads as it did. -/
def huffStepBackSpec : ChangeSpec := { name := "huffStepBack", fn := fun _ => fun
  | [d1, d2, d3, d4] => { results := [.lit (.bool true)], args := [d1, d2, d3, d4] }
  | _ => none }
def huffStepBackRow : OpenClaim := { program := "ytgheplondkoedaa", sum := "c7974d36d94d0f7cc4c6f0dbe5d34eefa8ac48aee85abaa870a5961da56cb7cd", func := "reedpipe/reedpipelaw09.HuffStepBack", spec := "huffStepBack", unfollowed := true, recurses := true, apart := false }
def HuffStepBackSaid : Prop := huffStepBackRow.holds Try.pinned (OpenSpec.ofChange huffStepBackSpec)

/-- ITS FALSE NEIGHBOUR: 'it returns false'. Refute it at one input. -/
def huffStepBackWrong : ChangeSpec := { name := "huffStepBack", fn := fun _ => fun
  | [d1, d2, d3, d4] => { results := [.lit (.bool false)], args := [d1, d2, d3, d4] }
  | _ => none }
def HuffStepBackWrongFalsely : Prop := huffStepBackRow.holds Try.pinned (OpenSpec.ofChange huffStepBackWrong)

/-- 'reedpipelaw09.HuffBack': WHATEVER THE INPUT: true; the input reads as it did. -/
def huffBackSpec : ChangeSpec := { name := "huffBack", fn := fun _ => fun
  | [d1, d2, d3, d4, d5] => { results := [.lit (.bool true)], args := [d1, d2, d3, d4, d5] }
  | _ => none }
def huffBackRow : OpenClaim := { program := "ytgheplondkoedaa", sum := "c7974d36d94d0f7cc4c6f0dbe5d34eefa8ac48aee85abaa870a5961da56cb7cd", func := "reedpipe/reedpipelaw09.HuffBack", spec := "huffBack", unfollowed := true, recurses := true, apart := false }
def HuffBackSaid : Prop := huffBackRow.holds Try.pinned (OpenSpec.ofChange huffBackSpec)

/-- ITS FALSE NEIGHBOUR: 'it returns false'. Refute it at one input. -/
def huffBackWrong : ChangeSpec := { name := "huffBack", fn := fun _ => fun
  | [d1, d2, d3, d4, d5] => { results := [.lit (.bool false)], args := [d1, d2, d3, d4, d5] }
  | _ => none }
def HuffBackWrongFalsely : Prop := huffBackRow.holds Try.pinned (OpenSpec.ofChange huffBackWrong)

/- THE SECOND FORM. 'bulk': how many values and letters a reading holds, each counted each time it is reached (what is shared counts as often as it is met; a slice's spare places count too). A statement '..UptoSaid' is the law's where the arguments, and the package variables that the reading takes, are together of bulk at most 1048576: NARROWER than '..Said'. Prove '..Said' where nothing that the law and all that it calls make is longer than what came in: it says more and counts as full. Else prove '..UptoSaid'. A law counts once. -/
mutual
def uptoBulk {H : Type} : DataW H → Nat
  | .lit (.string bytes) => bytes.length + 1
  | .lit _ => 1
  | .nil => 1
  | .ptr d => uptoBulk d + 1
  | .slice elems spare => uptoBulkAll elems + uptoBulkAll spare + 1
  | .agg parts => uptoBulkAll parts + 1
  | .iface _ d => uptoBulk d + 1
  | .map entries => uptoBulkEntries entries + 1
  | .held _ => 1
def uptoBulkAll {H : Type} : List (DataW H) → Nat
  | [] => 0
  | d :: r => uptoBulk d + uptoBulkAll r
def uptoBulkEntries {H : Type} : List (Lit × DataW H) → Nat
  | [] => 0
  | x :: r => uptoBulkEntry x + uptoBulkEntries r
def uptoBulkEntry {H : Type} : Lit × DataW H → Nat
  | (.string bytes, d) => bytes.length + uptoBulk d + 1
  | (_, d) => uptoBulk d + 1
 end
def uptoSmall : (H : Type) → List (DataW H) → Bool := fun _ ds => decide (uptoBulkAll ds ≤ 1048576)
def OpenSpec.upto (s : _root_.Go.ChangeSpec) : _root_.Go.OpenSpec := { _root_.Go.OpenSpec.ofChange s with cond := some uptoSmall }

/-- 'reedpipelaw09.HuffTells', WHERE WHAT IT READS IS OF BULK AT MOST 1048576: true; the input reads as it did. -/
def huffTellsUptoRow : OpenClaim := { program := "ytgheplondkoedaa", sum := "c7974d36d94d0f7cc4c6f0dbe5d34eefa8ac48aee85abaa870a5961da56cb7cd", func := "reedpipe/reedpipelaw09.HuffTells", spec := "huffTells", unfollowed := true, recurses := true, apart := false, narrowed := true }
def HuffTellsUptoSaid : Prop := huffTellsUptoRow.holds Try.pinned (OpenSpec.upto huffTellsSpec)

/-- 'reedpipelaw09.HuffSteps', WHERE WHAT IT READS IS OF BULK AT MOST 1048576: true; the input reads as it did. -/
def huffStepsUptoRow : OpenClaim := { program := "ytgheplondkoedaa", sum := "c7974d36d94d0f7cc4c6f0dbe5d34eefa8ac48aee85abaa870a5961da56cb7cd", func := "reedpipe/reedpipelaw09.HuffSteps", spec := "huffSteps", unfollowed := true, recurses := true, apart := false, narrowed := true }
def HuffStepsUptoSaid : Prop := huffStepsUptoRow.holds Try.pinned (OpenSpec.upto huffStepsSpec)

/-- 'reedpipelaw20.ScaleCuts', WHERE WHAT IT READS IS OF BULK AT MOST 1048576: true; the input reads as it did. -/
def scaleCutsUptoRow : OpenClaim := { program := "ytgheplondkoedaa", sum := "c7974d36d94d0f7cc4c6f0dbe5d34eefa8ac48aee85abaa870a5961da56cb7cd", func := "reedpipe/reedpipelaw20.ScaleCuts", spec := "scaleCuts", unfollowed := true, recurses := true, apart := false, narrowed := true }
def ScaleCutsUptoSaid : Prop := scaleCutsUptoRow.holds Try.pinned (OpenSpec.upto scaleCutsSpec)

/-- 'reedpipelaw20.ScaleFlat', WHERE WHAT IT READS IS OF BULK AT MOST 1048576: true; the input reads as it did. -/
def scaleFlatUptoRow : OpenClaim := { program := "ytgheplondkoedaa", sum := "c7974d36d94d0f7cc4c6f0dbe5d34eefa8ac48aee85abaa870a5961da56cb7cd", func := "reedpipe/reedpipelaw20.ScaleFlat", spec := "scaleFlat", unfollowed := true, recurses := true, apart := false, narrowed := true }
def ScaleFlatUptoSaid : Prop := scaleFlatUptoRow.holds Try.pinned (OpenSpec.upto scaleFlatSpec)

/-- 'reedpipelaw09.HuffSigns', WHERE WHAT IT READS IS OF BULK AT MOST 1048576: true; the input reads as it did. -/
def huffSignsUptoRow : OpenClaim := { program := "ytgheplondkoedaa", sum := "c7974d36d94d0f7cc4c6f0dbe5d34eefa8ac48aee85abaa870a5961da56cb7cd", func := "reedpipe/reedpipelaw09.HuffSigns", spec := "huffSigns", unfollowed := true, recurses := true, apart := false, narrowed := true }
def HuffSignsUptoSaid : Prop := huffSignsUptoRow.holds Try.pinned (OpenSpec.upto huffSignsSpec)

/-- 'reedpipelaw20.ScaleNames', WHERE WHAT IT READS IS OF BULK AT MOST 1048576: true; the input reads as it did. -/
def scaleNamesUptoRow : OpenClaim := { program := "ytgheplondkoedaa", sum := "c7974d36d94d0f7cc4c6f0dbe5d34eefa8ac48aee85abaa870a5961da56cb7cd", func := "reedpipe/reedpipelaw20.ScaleNames", spec := "scaleNames", unfollowed := true, recurses := true, apart := false, narrowed := true }
def ScaleNamesUptoSaid : Prop := scaleNamesUptoRow.holds Try.pinned (OpenSpec.upto scaleNamesSpec)

/-- 'reedpipelaw20.ScaleTells', WHERE WHAT IT READS IS OF BULK AT MOST 1048576: true; the input reads as it did. -/
def scaleTellsUptoRow : OpenClaim := { program := "ytgheplondkoedaa", sum := "c7974d36d94d0f7cc4c6f0dbe5d34eefa8ac48aee85abaa870a5961da56cb7cd", func := "reedpipe/reedpipelaw20.ScaleTells", spec := "scaleTells", unfollowed := true, recurses := true, apart := false, narrowed := true }
def ScaleTellsUptoSaid : Prop := scaleTellsUptoRow.holds Try.pinned (OpenSpec.upto scaleTellsSpec)

/-- 'reedpipelaw20.ScaleBack', WHERE WHAT IT READS IS OF BULK AT MOST 1048576: true; the input reads as it did. -/
def scaleBackUptoRow : OpenClaim := { program := "ytgheplondkoedaa", sum := "c7974d36d94d0f7cc4c6f0dbe5d34eefa8ac48aee85abaa870a5961da56cb7cd", func := "reedpipe/reedpipelaw20.ScaleBack", spec := "scaleBack", unfollowed := true, recurses := true, apart := false, narrowed := true }
def ScaleBackUptoSaid : Prop := scaleBackUptoRow.holds Try.pinned (OpenSpec.upto scaleBackSpec)

/-- 'reedpipelaw09.HuffNames', WHERE WHAT IT READS IS OF BULK AT MOST 1048576: true; the input reads as it did. -/
def huffNamesUptoRow : OpenClaim := { program := "ytgheplondkoedaa", sum := "c7974d36d94d0f7cc4c6f0dbe5d34eefa8ac48aee85abaa870a5961da56cb7cd", func := "reedpipe/reedpipelaw09.HuffNames", spec := "huffNames", unfollowed := true, recurses := true, apart := false, narrowed := true }
def HuffNamesUptoSaid : Prop := huffNamesUptoRow.holds Try.pinned (OpenSpec.upto huffNamesSpec)

/-- 'reedpipelaw09.HuffStepBack', WHERE WHAT IT READS IS OF BULK AT MOST 1048576: true; the input reads as it did. -/
def huffStepBackUptoRow : OpenClaim := { program := "ytgheplondkoedaa", sum := "c7974d36d94d0f7cc4c6f0dbe5d34eefa8ac48aee85abaa870a5961da56cb7cd", func := "reedpipe/reedpipelaw09.HuffStepBack", spec := "huffStepBack", unfollowed := true, recurses := true, apart := false, narrowed := true }
def HuffStepBackUptoSaid : Prop := huffStepBackUptoRow.holds Try.pinned (OpenSpec.upto huffStepBackSpec)

/-- 'reedpipelaw09.HuffBack', WHERE WHAT IT READS IS OF BULK AT MOST 1048576: true; the input reads as it did. -/
def huffBackUptoRow : OpenClaim := { program := "ytgheplondkoedaa", sum := "c7974d36d94d0f7cc4c6f0dbe5d34eefa8ac48aee85abaa870a5961da56cb7cd", func := "reedpipe/reedpipelaw09.HuffBack", spec := "huffBack", unfollowed := true, recurses := true, apart := false, narrowed := true }
def HuffBackUptoSaid : Prop := huffBackUptoRow.holds Try.pinned (OpenSpec.upto huffBackSpec)

end Rows
end Go.Proofs.Ytgheplondkoedaa
