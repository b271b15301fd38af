/-
  No cell of these rows narrows 'for every input' (looked for: loops, veiled, ifaces, maps, wideKeys, modest, calm, conditions, laid).
  DERIVED. THE GIVEN ROWS OF THIS SEAT. 10 by the template 'for every input the law returns true; each argument reads behind the call as it read before'; 0 by the template 'total and deterministic' (their statements: YtkhjiabenifplaaTotals.lean).
  GIVEN WITH THE SEED: the statements are not yours to turn. If you find one false, say at which input.
  Laid BY PROGRAM, IN A SANDBOX (cutbox-rows.mjs): the forced cells as the released guide's own fill.sh prints them over the translation f9790f3527971b0f… (all of the seat's roots in one cut). By AI agents, Wed Nov 11 2026. No macro, syntax, notation, axiom, sorry.
-/
import Derived.Test.YtkhjiabenifplaaChecked
import GoSem.Claim
import GoSem.ClaimJoined
import GoSem.ClaimMapViews
import Derived.JoinedTies
import Derived.KernelRfl
namespace Go.Proofs.Ytkhjiabenifplaa
/- THE CELL 'sum', in the pinned program and in every row, IS THE sha256 OF THE DUMP (.gsa) THAT YtkhjiabenifplaaProg.lean LOADS. Nothing in Lean hashes anything: it is a label: what it is worth is what the hold of that sum in a sandbox is worth. -/
noncomputable def Try.pinned : Pinned := { name := "ytkhjiabenifplaa", sum := "f9790f3527971b0ff9adc2b7f6ed9ab0468530f3aa5da3474c3da2a48fccd3d0", checked := Try.checked }
namespace Rows
def none {H : Type} : Left H := { results := [], args := [] }

/-- 'reedpipelaw10.InfoTells': WHATEVER THE INPUT: true; the input reads as it did. -/
def infoTellsSpec : ChangeSpec := { name := "infoTells", fn := fun _ => fun
  | [d1, d2, d3, d4, d5, d6] => { results := [.lit (.bool true)], args := [d1, d2, d3, d4, d5, d6] }
  | _ => none }
def infoTellsRow : OpenClaim := { program := "ytkhjiabenifplaa", sum := "f9790f3527971b0ff9adc2b7f6ed9ab0468530f3aa5da3474c3da2a48fccd3d0", func := "reedpipe/reedpipelaw10.InfoTells", spec := "infoTells", apart := false }
def InfoTellsSaid : Prop := infoTellsRow.holds Try.pinned (OpenSpec.ofChange infoTellsSpec)

/-- ITS FALSE NEIGHBOUR: 'it returns false'. Refute it at one input. -/
def infoTellsWrong : ChangeSpec := { name := "infoTells", fn := fun _ => fun
  | [d1, d2, d3, d4, d5, d6] => { results := [.lit (.bool false)], args := [d1, d2, d3, d4, d5, d6] }
  | _ => none }
def InfoTellsWrongFalsely : Prop := infoTellsRow.holds Try.pinned (OpenSpec.ofChange infoTellsWrong)

/-- 'reedpipelaw10.InfoGroups': WHATEVER THE INPUT: true; the input reads as it did. -/
def infoGroupsSpec : ChangeSpec := { name := "infoGroups", fn := fun _ => fun
  | [d] => { results := [.lit (.bool true)], args := [d] }
  | _ => none }
def infoGroupsRow : OpenClaim := { program := "ytkhjiabenifplaa", sum := "f9790f3527971b0ff9adc2b7f6ed9ab0468530f3aa5da3474c3da2a48fccd3d0", func := "reedpipe/reedpipelaw10.InfoGroups", spec := "infoGroups", unfollowed := true, recurses := true, apart := false }
def InfoGroupsSaid : Prop := infoGroupsRow.holds Try.pinned (OpenSpec.ofChange infoGroupsSpec)

/-- ITS FALSE NEIGHBOUR: 'it returns false'. Refute it at one input. -/
def infoGroupsWrong : ChangeSpec := { name := "infoGroups", fn := fun _ => fun
  | [d] => { results := [.lit (.bool false)], args := [d] }
  | _ => none }
def InfoGroupsWrongFalsely : Prop := infoGroupsRow.holds Try.pinned (OpenSpec.ofChange infoGroupsWrong)

/-- 'reedpipelaw10.InfoRates': WHATEVER THE INPUT: true; the input reads as it did. -/
def infoRatesSpec : ChangeSpec := { name := "infoRates", fn := fun _ => fun
  | [d1, d2, d3] => { results := [.lit (.bool true)], args := [d1, d2, d3] }
  | _ => none }
def infoRatesRow : OpenClaim := { program := "ytkhjiabenifplaa", sum := "f9790f3527971b0ff9adc2b7f6ed9ab0468530f3aa5da3474c3da2a48fccd3d0", func := "reedpipe/reedpipelaw10.InfoRates", spec := "infoRates", unfollowed := true, recurses := true, apart := false }
def InfoRatesSaid : Prop := infoRatesRow.holds Try.pinned (OpenSpec.ofChange infoRatesSpec)

/-- ITS FALSE NEIGHBOUR: 'it returns false'. Refute it at one input. -/
def infoRatesWrong : ChangeSpec := { name := "infoRates", fn := fun _ => fun
  | [d1, d2, d3] => { results := [.lit (.bool false)], args := [d1, d2, d3] }
  | _ => none }
def InfoRatesWrongFalsely : Prop := infoRatesRow.holds Try.pinned (OpenSpec.ofChange infoRatesWrong)

/-- 'reedpipelaw10.InfoNames': WHATEVER THE INPUT: true; the input reads as it did. -/
def infoNamesSpec : ChangeSpec := { name := "infoNames", fn := fun _ => fun
  | [] => { results := [.lit (.bool true)], args := [] }
  | _ => none }
def infoNamesRow : OpenClaim := { program := "ytkhjiabenifplaa", sum := "f9790f3527971b0ff9adc2b7f6ed9ab0468530f3aa5da3474c3da2a48fccd3d0", func := "reedpipe/reedpipelaw10.InfoNames", spec := "infoNames", unfollowed := true, recurses := true, apart := false }
def InfoNamesSaid : Prop := infoNamesRow.holds Try.pinned (OpenSpec.ofChange infoNamesSpec)

/-- ITS FALSE NEIGHBOUR: 'it returns false'. Refute it at one input. -/
def infoNamesWrong : ChangeSpec := { name := "infoNames", fn := fun _ => fun
  | [] => { results := [.lit (.bool false)], args := [] }
  | _ => none }
def InfoNamesWrongFalsely : Prop := infoNamesRow.holds Try.pinned (OpenSpec.ofChange infoNamesWrong)

/-- 'reedpipelaw10.InfoFollows': WHATEVER THE INPUT: true; the input reads as it did. -/
def infoFollowsSpec : ChangeSpec := { name := "infoFollows", fn := fun _ => fun
  | [d1, d2] => { results := [.lit (.bool true)], args := [d1, d2] }
  | _ => none }
def infoFollowsRow : OpenClaim := { program := "ytkhjiabenifplaa", sum := "f9790f3527971b0ff9adc2b7f6ed9ab0468530f3aa5da3474c3da2a48fccd3d0", func := "reedpipe/reedpipelaw10.InfoFollows", spec := "infoFollows", unfollowed := true, recurses := true, apart := false }
def InfoFollowsSaid : Prop := infoFollowsRow.holds Try.pinned (OpenSpec.ofChange infoFollowsSpec)

/-- ITS FALSE NEIGHBOUR: 'it returns false'. Refute it at one input. -/
def infoFollowsWrong : ChangeSpec := { name := "infoFollows", fn := fun _ => fun
  | [d1, d2] => { results := [.lit (.bool false)], args := [d1, d2] }
  | _ => none }
def InfoFollowsWrongFalsely : Prop := infoFollowsRow.holds Try.pinned (OpenSpec.ofChange infoFollowsWrong)

/-- 'reedpipelaw19.SectNothing': WHATEVER THE INPUT: true; the input reads as it did. -/
def sectNothingSpec : ChangeSpec := { name := "sectNothing", fn := fun _ => fun
  | [d1, d2] => { results := [.lit (.bool true)], args := [d1, d2] }
  | _ => none }
def sectNothingRow : OpenClaim := { program := "ytkhjiabenifplaa", sum := "f9790f3527971b0ff9adc2b7f6ed9ab0468530f3aa5da3474c3da2a48fccd3d0", func := "reedpipe/reedpipelaw19.SectNothing", spec := "sectNothing", unfollowed := true, recurses := true, apart := false }
def SectNothingSaid : Prop := sectNothingRow.holds Try.pinned (OpenSpec.ofChange sectNothingSpec)

/-- ITS FALSE NEIGHBOUR: 'it returns false'. Refute it at one input. -/
def sectNothingWrong : ChangeSpec := { name := "sectNothing", fn := fun _ => fun
  | [d1, d2] => { results := [.lit (.bool false)], args := [d1, d2] }
  | _ => none }
def SectNothingWrongFalsely : Prop := sectNothingRow.holds Try.pinned (OpenSpec.ofChange sectNothingWrong)

/-- 'reedpipelaw10.InfoBack': WHATEVER THE INPUT: true; the input reads as it did. -/
def infoBackSpec : ChangeSpec := { name := "infoBack", fn := fun _ => fun
  | [d1, d2, d3, d4, d5] => { results := [.lit (.bool true)], args := [d1, d2, d3, d4, d5] }
  | _ => none }
def infoBackRow : OpenClaim := { program := "ytkhjiabenifplaa", sum := "f9790f3527971b0ff9adc2b7f6ed9ab0468530f3aa5da3474c3da2a48fccd3d0", func := "reedpipe/reedpipelaw10.InfoBack", spec := "infoBack", unfollowed := true, recurses := true, apart := false }
def InfoBackSaid : Prop := infoBackRow.holds Try.pinned (OpenSpec.ofChange infoBackSpec)

/-- ITS FALSE NEIGHBOUR: 'it returns false'. Refute it at one input. -/
def infoBackWrong : ChangeSpec := { name := "infoBack", fn := fun _ => fun
  | [d1, d2, d3, d4, d5] => { results := [.lit (.bool false)], args := [d1, d2, d3, d4, d5] }
  | _ => none }
def InfoBackWrongFalsely : Prop := infoBackRow.holds Try.pinned (OpenSpec.ofChange infoBackWrong)

/-- 'reedpipelaw19.SectNames': WHATEVER THE INPUT: true; the input reads as it did. -/
def sectNamesSpec : ChangeSpec := { name := "sectNames", fn := fun _ => fun
  | [] => { results := [.lit (.bool true)], args := [] }
  | _ => none }
def sectNamesRow : OpenClaim := { program := "ytkhjiabenifplaa", sum := "f9790f3527971b0ff9adc2b7f6ed9ab0468530f3aa5da3474c3da2a48fccd3d0", func := "reedpipe/reedpipelaw19.SectNames", spec := "sectNames", unfollowed := true, recurses := true, apart := false }
def SectNamesSaid : Prop := sectNamesRow.holds Try.pinned (OpenSpec.ofChange sectNamesSpec)

/-- ITS FALSE NEIGHBOUR: 'it returns false'. Refute it at one input. -/
def sectNamesWrong : ChangeSpec := { name := "sectNames", fn := fun _ => fun
  | [] => { results := [.lit (.bool false)], args := [] }
  | _ => none }
def SectNamesWrongFalsely : Prop := sectNamesRow.holds Try.pinned (OpenSpec.ofChange sectNamesWrong)

/-- 'reedpipelaw19.SectTells': WHATEVER THE INPUT: true; the input reads as it did. -/
def sectTellsSpec : ChangeSpec := { name := "sectTells", fn := fun _ => fun
  | [d1, d2, d3, d4] => { results := [.lit (.bool true)], args := [d1, d2, d3, d4] }
  | _ => none }
def sectTellsRow : OpenClaim := { program := "ytkhjiabenifplaa", sum := "f9790f3527971b0ff9adc2b7f6ed9ab0468530f3aa5da3474c3da2a48fccd3d0", func := "reedpipe/reedpipelaw19.SectTells", spec := "sectTells", unfollowed := true, recurses := true, apart := false }
def SectTellsSaid : Prop := sectTellsRow.holds Try.pinned (OpenSpec.ofChange sectTellsSpec)

/-- ITS FALSE NEIGHBOUR: 'it returns false'. Refute it at one input. -/
def sectTellsWrong : ChangeSpec := { name := "sectTells", fn := fun _ => fun
  | [d1, d2, d3, d4] => { results := [.lit (.bool false)], args := [d1, d2, d3, d4] }
  | _ => none }
def SectTellsWrongFalsely : Prop := sectTellsRow.holds Try.pinned (OpenSpec.ofChange sectTellsWrong)

/-- 'reedpipelaw19.SectBack': WHATEVER THE INPUT: true; the input reads as it did. -/
def sectBackSpec : ChangeSpec := { name := "sectBack", fn := fun _ => fun
  | [d1, d2, d3, d4, d5] => { results := [.lit (.bool true)], args := [d1, d2, d3, d4, d5] }
  | _ => none }
def sectBackRow : OpenClaim := { program := "ytkhjiabenifplaa", sum := "f9790f3527971b0ff9adc2b7f6ed9ab0468530f3aa5da3474c3da2a48fccd3d0", func := "reedpipe/reedpipelaw19.SectBack", spec := "sectBack", unfollowed := true, recurses := true, apart := false }
def SectBackSaid : Prop := sectBackRow.holds Try.pinned (OpenSpec.ofChange sectBackSpec)

/-- ITS FALSE NEIGHBOUR: 'it returns false'. Refute it at one input. -/
def sectBackWrong : ChangeSpec := { name := "sectBack", fn := fun _ => fun
  | [d1, d2, d3, d4, d5] => { results := [.lit (.bool false)], args := [d1, d2, d3, d4, d5] }
  | _ => none }
def SectBackWrongFalsely : Prop := sectBackRow.holds Try.pinned (OpenSpec.ofChange sectBackWrong)

/- THE SECOND FORM. 'bulk': how many values and letters a reading holds, each counted each time it is reached (what is shared counts as often as it is met; a slice's spare places count too). A statement '..UptoSaid' is the law's where the arguments, and the package variables that the reading takes, are together of bulk at most 1048576: NARROWER than '..Said'. Prove '..Said' where nothing that the law and all that it calls make is longer than what came in: it says more and counts as full. Else prove '..UptoSaid'. A law counts once. -/
mutual
def uptoBulk {H : Type} : DataW H → Nat
  | .lit (.string bytes) => bytes.length + 1
  | .lit _ => 1
  | .nil => 1
  | .ptr d => uptoBulk d + 1
  | .slice elems spare => uptoBulkAll elems + uptoBulkAll spare + 1
  | .agg parts => uptoBulkAll parts + 1
  | .iface _ d => uptoBulk d + 1
  | .map entries => uptoBulkEntries entries + 1
  | .held _ => 1
def uptoBulkAll {H : Type} : List (DataW H) → Nat
  | [] => 0
  | d :: r => uptoBulk d + uptoBulkAll r
def uptoBulkEntries {H : Type} : List (Lit × DataW H) → Nat
  | [] => 0
  | x :: r => uptoBulkEntry x + uptoBulkEntries r
def uptoBulkEntry {H : Type} : Lit × DataW H → Nat
  | (.string bytes, d) => bytes.length + uptoBulk d + 1
  | (_, d) => uptoBulk d + 1
 end
def uptoSmall : (H : Type) → List (DataW H) → Bool := fun _ ds => decide (uptoBulkAll ds ≤ 1048576)
def OpenSpec.upto (s : _root_.Go.ChangeSpec) : _root_.Go.OpenSpec := { _root_.Go.OpenSpec.ofChange s with cond := some uptoSmall }

/-- 'reedpipelaw10.InfoTells', WHERE WHAT IT READS IS OF BULK AT MOST 1048576: true; the input reads as it did. -/
def infoTellsUptoRow : OpenClaim := { program := "ytkhjiabenifplaa", sum := "f9790f3527971b0ff9adc2b7f6ed9ab0468530f3aa5da3474c3da2a48fccd3d0", func := "reedpipe/reedpipelaw10.InfoTells", spec := "infoTells", apart := false, narrowed := true }
def InfoTellsUptoSaid : Prop := infoTellsUptoRow.holds Try.pinned (OpenSpec.upto infoTellsSpec)

/-- 'reedpipelaw10.InfoGroups', WHERE WHAT IT READS IS OF BULK AT MOST 1048576: true; the input reads as it did. -/
def infoGroupsUptoRow : OpenClaim := { program := "ytkhjiabenifplaa", sum := "f9790f3527971b0ff9adc2b7f6ed9ab0468530f3aa5da3474c3da2a48fccd3d0", func := "reedpipe/reedpipelaw10.InfoGroups", spec := "infoGroups", unfollowed := true, recurses := true, apart := false, narrowed := true }
def InfoGroupsUptoSaid : Prop := infoGroupsUptoRow.holds Try.pinned (OpenSpec.upto infoGroupsSpec)

/-- 'reedpipelaw10.InfoRates', WHERE WHAT IT READS IS OF BULK AT MOST 1048576: true; the input reads as it did. -/
def infoRatesUptoRow : OpenClaim := { program := "ytkhjiabenifplaa", sum := "f9790f3527971b0ff9adc2b7f6ed9ab0468530f3aa5da3474c3da2a48fccd3d0", func := "reedpipe/reedpipelaw10.InfoRates", spec := "infoRates", unfollowed := true, recurses := true, apart := false, narrowed := true }
def InfoRatesUptoSaid : Prop := infoRatesUptoRow.holds Try.pinned (OpenSpec.upto infoRatesSpec)

/-- 'reedpipelaw10.InfoNames', WHERE WHAT IT READS IS OF BULK AT MOST 1048576: true; the input reads as it did. -/
def infoNamesUptoRow : OpenClaim := { program := "ytkhjiabenifplaa", sum := "f9790f3527971b0ff9adc2b7f6ed9ab0468530f3aa5da3474c3da2a48fccd3d0", func := "reedpipe/reedpipelaw10.InfoNames", spec := "infoNames", unfollowed := true, recurses := true, apart := false, narrowed := true }
def InfoNamesUptoSaid : Prop := infoNamesUptoRow.holds Try.pinned (OpenSpec.upto infoNamesSpec)

/-- 'reedpipelaw10.InfoFollows', WHERE WHAT IT READS IS OF BULK AT MOST 1048576: true; the input reads as it did. -/
def infoFollowsUptoRow : OpenClaim := { program := "ytkhjiabenifplaa", sum := "f9790f3527971b0ff9adc2b7f6ed9ab0468530f3aa5da3474c3da2a48fccd3d0", func := "reedpipe/reedpipelaw10.InfoFollows", spec := "infoFollows", unfollowed := true, recurses := true, apart := false, narrowed := true }
def InfoFollowsUptoSaid : Prop := infoFollowsUptoRow.holds Try.pinned (OpenSpec.upto infoFollowsSpec)

/-- 'reedpipelaw19.SectNothing', WHERE WHAT IT READS IS OF BULK AT MOST 1048576: true; the input reads as it did. -/
def sectNothingUptoRow : OpenClaim := { program := "ytkhjiabenifplaa", sum := "f9790f3527971b0ff9adc2b7f6ed9ab0468530f3aa5da3474c3da2a48fccd3d0", func := "reedpipe/reedpipelaw19.SectNothing", spec := "sectNothing", unfollowed := true, recurses := true, apart := false, narrowed := true }
def SectNothingUptoSaid : Prop := sectNothingUptoRow.holds Try.pinned (OpenSpec.upto sectNothingSpec)

/-- 'reedpipelaw10.InfoBack', WHERE WHAT IT READS IS OF BULK AT MOST 1048576: true; the input reads as it did. -/
def infoBackUptoRow : OpenClaim := { program := "ytkhjiabenifplaa", sum := "f9790f3527971b0ff9adc2b7f6ed9ab0468530f3aa5da3474c3da2a48fccd3d0", func := "reedpipe/reedpipelaw10.InfoBack", spec := "infoBack", unfollowed := true, recurses := true, apart := false, narrowed := true }
def InfoBackUptoSaid : Prop := infoBackUptoRow.holds Try.pinned (OpenSpec.upto infoBackSpec)

/-- 'reedpipelaw19.SectNames', WHERE WHAT IT READS IS OF BULK AT MOST 1048576: true; the input reads as it did. -/
def sectNamesUptoRow : OpenClaim := { program := "ytkhjiabenifplaa", sum := "f9790f3527971b0ff9adc2b7f6ed9ab0468530f3aa5da3474c3da2a48fccd3d0", func := "reedpipe/reedpipelaw19.SectNames", spec := "sectNames", unfollowed := true, recurses := true, apart := false, narrowed := true }
def SectNamesUptoSaid : Prop := sectNamesUptoRow.holds Try.pinned (OpenSpec.upto sectNamesSpec)

/-- 'reedpipelaw19.SectTells', WHERE WHAT IT READS IS OF BULK AT MOST 1048576: true; the input reads as it did. -/
def sectTellsUptoRow : OpenClaim := { program := "ytkhjiabenifplaa", sum := "f9790f3527971b0ff9adc2b7f6ed9ab0468530f3aa5da3474c3da2a48fccd3d0", func := "reedpipe/reedpipelaw19.SectTells", spec := "sectTells", unfollowed := true, recurses := true, apart := false, narrowed := true }
def SectTellsUptoSaid : Prop := sectTellsUptoRow.holds Try.pinned (OpenSpec.upto sectTellsSpec)

/-- 'reedpipelaw19.SectBack', WHERE WHAT IT READS IS OF BULK AT MOST 1048576: true; the input reads as it did. -/
def sectBackUptoRow : OpenClaim := { program := "ytkhjiabenifplaa", sum := "f9790f3527971b0ff9adc2b7f6ed9ab0468530f3aa5da3474c3da2a48fccd3d0", func := "reedpipe/reedpipelaw19.SectBack", spec := "sectBack", unfollowed := true, recurses := true, apart := false, narrowed := true }
def SectBackUptoSaid : Prop := sectBackUptoRow.holds Try.pinned (OpenSpec.upto sectBackSpec)

end Rows
end Go.Proofs.Ytkhjiabenifplaa
