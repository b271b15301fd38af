/-
  No cell of these rows narrows 'for every input' (looked for: loops, veiled, ifaces, maps, wideKeys, modest, calm, conditions, laid).
  DERIVED. THE GIVEN ROWS OF THIS SEAT. 11 by the template 'for every input the law returns true; each argument reads behind the call as it read before'; 0 by the template 'total and deterministic' (their statements: YtmkgfgdipkagbaaTotals.lean).
  GIVEN WITH THE SEED: the statements are not yours to turn. If you find one false, say at which input.
  Laid BY PROGRAM, IN A SANDBOX (cutbox-rows.mjs): the forced cells as the released guide's own fill.sh prints them over the translation a82fc4809f9b3e22… (all of the seat's roots in one cut). By AI agents, Wed Nov 11 2026. No macro, syntax, notation, axiom, sorry.
-/
import Derived.Test.YtmkgfgdipkagbaaChecked
import GoSem.Claim
import GoSem.ClaimJoined
import GoSem.ClaimMapViews
import Derived.JoinedTies
import Derived.KernelRfl
namespace Go.Proofs.Ytmkgfgdipkagbaa
/- THE CELL 'sum', in the pinned program and in every row, IS THE sha256 OF THE DUMP (.gsa) THAT YtmkgfgdipkagbaaProg.lean LOADS. Nothing in Lean hashes anything: it is a label: what it is worth is what the hold of that sum in a sandbox is worth. -/
noncomputable def Try.pinned : Pinned := { name := "ytmkgfgdipkagbaa", sum := "a82fc4809f9b3e224c2bec7a157aee2958b693079d123940787e81a30232a2f4", checked := Try.checked }
namespace Rows
def none {H : Type} : Left H := { results := [], args := [] }

/-- 'reedpipelaw18.LaneSame': WHATEVER THE INPUT: true; the input reads as it did. -/
def laneSameSpec : ChangeSpec := { name := "laneSame", fn := fun _ => fun
  | [d1, d2] => { results := [.lit (.bool true)], args := [d1, d2] }
  | _ => none }
def laneSameRow : OpenClaim := { program := "ytmkgfgdipkagbaa", sum := "a82fc4809f9b3e224c2bec7a157aee2958b693079d123940787e81a30232a2f4", func := "reedpipe/reedpipelaw18.LaneSame", spec := "laneSame", unfollowed := true, recurses := true, apart := false }
def LaneSameSaid : Prop := laneSameRow.holds Try.pinned (OpenSpec.ofChange laneSameSpec)

/-- ITS FALSE NEIGHBOUR: 'it returns false'. Refute it at one input. -/
def laneSameWrong : ChangeSpec := { name := "laneSame", fn := fun _ => fun
  | [d1, d2] => { results := [.lit (.bool false)], args := [d1, d2] }
  | _ => none }
def LaneSameWrongFalsely : Prop := laneSameRow.holds Try.pinned (OpenSpec.ofChange laneSameWrong)

/-- 'reedpipelaw21.TnsbitsNone': WHATEVER THE INPUT: true; the input reads as it did. -/
def tnsbitsNoneSpec : ChangeSpec := { name := "tnsbitsNone", fn := fun _ => fun
  | [d1, d2] => { results := [.lit (.bool true)], args := [d1, d2] }
  | _ => none }
def tnsbitsNoneRow : OpenClaim := { program := "ytmkgfgdipkagbaa", sum := "a82fc4809f9b3e224c2bec7a157aee2958b693079d123940787e81a30232a2f4", func := "reedpipe/reedpipelaw21.TnsbitsNone", spec := "tnsbitsNone", unfollowed := true, recurses := true, apart := false }
def TnsbitsNoneSaid : Prop := tnsbitsNoneRow.holds Try.pinned (OpenSpec.ofChange tnsbitsNoneSpec)

/-- ITS FALSE NEIGHBOUR: 'it returns false'. Refute it at one input. -/
def tnsbitsNoneWrong : ChangeSpec := { name := "tnsbitsNone", fn := fun _ => fun
  | [d1, d2] => { results := [.lit (.bool false)], args := [d1, d2] }
  | _ => none }
def TnsbitsNoneWrongFalsely : Prop := tnsbitsNoneRow.holds Try.pinned (OpenSpec.ofChange tnsbitsNoneWrong)

/-- 'reedpipelaw21.TnsbitsNarrow': WHATEVER THE INPUT: true; the input reads as it did. -/
def tnsbitsNarrowSpec : ChangeSpec := { name := "tnsbitsNarrow", fn := fun _ => fun
  | [d1, d2] => { results := [.lit (.bool true)], args := [d1, d2] }
  | _ => none }
def tnsbitsNarrowRow : OpenClaim := { program := "ytmkgfgdipkagbaa", sum := "a82fc4809f9b3e224c2bec7a157aee2958b693079d123940787e81a30232a2f4", func := "reedpipe/reedpipelaw21.TnsbitsNarrow", spec := "tnsbitsNarrow", unfollowed := true, recurses := true, apart := false }
def TnsbitsNarrowSaid : Prop := tnsbitsNarrowRow.holds Try.pinned (OpenSpec.ofChange tnsbitsNarrowSpec)

/-- ITS FALSE NEIGHBOUR: 'it returns false'. Refute it at one input. -/
def tnsbitsNarrowWrong : ChangeSpec := { name := "tnsbitsNarrow", fn := fun _ => fun
  | [d1, d2] => { results := [.lit (.bool false)], args := [d1, d2] }
  | _ => none }
def TnsbitsNarrowWrongFalsely : Prop := tnsbitsNarrowRow.holds Try.pinned (OpenSpec.ofChange tnsbitsNarrowWrong)

/-- 'reedpipelaw21.TnsbitsNames': WHATEVER THE INPUT: true; the input reads as it did. -/
def tnsbitsNamesSpec : ChangeSpec := { name := "tnsbitsNames", fn := fun _ => fun
  | [] => { results := [.lit (.bool true)], args := [] }
  | _ => none }
def tnsbitsNamesRow : OpenClaim := { program := "ytmkgfgdipkagbaa", sum := "a82fc4809f9b3e224c2bec7a157aee2958b693079d123940787e81a30232a2f4", func := "reedpipe/reedpipelaw21.TnsbitsNames", spec := "tnsbitsNames", unfollowed := true, recurses := true, apart := false }
def TnsbitsNamesSaid : Prop := tnsbitsNamesRow.holds Try.pinned (OpenSpec.ofChange tnsbitsNamesSpec)

/-- ITS FALSE NEIGHBOUR: 'it returns false'. Refute it at one input. -/
def tnsbitsNamesWrong : ChangeSpec := { name := "tnsbitsNames", fn := fun _ => fun
  | [] => { results := [.lit (.bool false)], args := [] }
  | _ => none }
def TnsbitsNamesWrongFalsely : Prop := tnsbitsNamesRow.holds Try.pinned (OpenSpec.ofChange tnsbitsNamesWrong)

/-- 'reedpipelaw21.TnsbitsBack': WHATEVER THE INPUT: true; the input reads as it did. -/
def tnsbitsBackSpec : ChangeSpec := { name := "tnsbitsBack", fn := fun _ => fun
  | [d1, d2, d3, d4, d5] => { results := [.lit (.bool true)], args := [d1, d2, d3, d4, d5] }
  | _ => none }
def tnsbitsBackRow : OpenClaim := { program := "ytmkgfgdipkagbaa", sum := "a82fc4809f9b3e224c2bec7a157aee2958b693079d123940787e81a30232a2f4", func := "reedpipe/reedpipelaw21.TnsbitsBack", spec := "tnsbitsBack", unfollowed := true, recurses := true, apart := false }
def TnsbitsBackSaid : Prop := tnsbitsBackRow.holds Try.pinned (OpenSpec.ofChange tnsbitsBackSpec)

/-- ITS FALSE NEIGHBOUR: 'it returns false'. Refute it at one input. -/
def tnsbitsBackWrong : ChangeSpec := { name := "tnsbitsBack", fn := fun _ => fun
  | [d1, d2, d3, d4, d5] => { results := [.lit (.bool false)], args := [d1, d2, d3, d4, d5] }
  | _ => none }
def TnsbitsBackWrongFalsely : Prop := tnsbitsBackRow.holds Try.pinned (OpenSpec.ofChange tnsbitsBackWrong)

/-- 'reedpipelaw18.LaneNames': WHATEVER THE INPUT: true; the input reads as it did. -/
def laneNamesSpec : ChangeSpec := { name := "laneNames", fn := fun _ => fun
  | [] => { results := [.lit (.bool true)], args := [] }
  | _ => none }
def laneNamesRow : OpenClaim := { program := "ytmkgfgdipkagbaa", sum := "a82fc4809f9b3e224c2bec7a157aee2958b693079d123940787e81a30232a2f4", func := "reedpipe/reedpipelaw18.LaneNames", spec := "laneNames", unfollowed := true, recurses := true, apart := false }
def LaneNamesSaid : Prop := laneNamesRow.holds Try.pinned (OpenSpec.ofChange laneNamesSpec)

/-- ITS FALSE NEIGHBOUR: 'it returns false'. Refute it at one input. -/
def laneNamesWrong : ChangeSpec := { name := "laneNames", fn := fun _ => fun
  | [] => { results := [.lit (.bool false)], args := [] }
  | _ => none }
def LaneNamesWrongFalsely : Prop := laneNamesRow.holds Try.pinned (OpenSpec.ofChange laneNamesWrong)

/-- 'reedpipelaw18.LaneTells': WHATEVER THE INPUT: true; the input reads as it did. -/
def laneTellsSpec : ChangeSpec := { name := "laneTells", fn := fun _ => fun
  | [d1, d2, d3, d4] => { results := [.lit (.bool true)], args := [d1, d2, d3, d4] }
  | _ => none }
def laneTellsRow : OpenClaim := { program := "ytmkgfgdipkagbaa", sum := "a82fc4809f9b3e224c2bec7a157aee2958b693079d123940787e81a30232a2f4", func := "reedpipe/reedpipelaw18.LaneTells", spec := "laneTells", unfollowed := true, recurses := true, apart := false }
def LaneTellsSaid : Prop := laneTellsRow.holds Try.pinned (OpenSpec.ofChange laneTellsSpec)

/-- ITS FALSE NEIGHBOUR: 'it returns false'. Refute it at one input. -/
def laneTellsWrong : ChangeSpec := { name := "laneTells", fn := fun _ => fun
  | [d1, d2, d3, d4] => { results := [.lit (.bool false)], args := [d1, d2, d3, d4] }
  | _ => none }
def LaneTellsWrongFalsely : Prop := laneTellsRow.holds Try.pinned (OpenSpec.ofChange laneTellsWrong)

/-- 'reedpipelaw18.LaneZero': WHATEVER THE INPUT: true; the input reads as it did. -/
def laneZeroSpec : ChangeSpec := { name := "laneZero", fn := fun _ => fun
  | [d1, d2] => { results := [.lit (.bool true)], args := [d1, d2] }
  | _ => none }
def laneZeroRow : OpenClaim := { program := "ytmkgfgdipkagbaa", sum := "a82fc4809f9b3e224c2bec7a157aee2958b693079d123940787e81a30232a2f4", func := "reedpipe/reedpipelaw18.LaneZero", spec := "laneZero", unfollowed := true, recurses := true, apart := false }
def LaneZeroSaid : Prop := laneZeroRow.holds Try.pinned (OpenSpec.ofChange laneZeroSpec)

/-- ITS FALSE NEIGHBOUR: 'it returns false'. Refute it at one input. -/
def laneZeroWrong : ChangeSpec := { name := "laneZero", fn := fun _ => fun
  | [d1, d2] => { results := [.lit (.bool false)], args := [d1, d2] }
  | _ => none }
def LaneZeroWrongFalsely : Prop := laneZeroRow.holds Try.pinned (OpenSpec.ofChange laneZeroWrong)

/-- 'reedpipelaw18.LaneTurns': WHATEVER THE INPUT: true; the input reads as it did. -/
def laneTurnsSpec : ChangeSpec := { name := "laneTurns", fn := fun _ => fun
  | [d1, d2, d3] => { results := [.lit (.bool true)], args := [d1, d2, d3] }
  | _ => none }
def laneTurnsRow : OpenClaim := { program := "ytmkgfgdipkagbaa", sum := "a82fc4809f9b3e224c2bec7a157aee2958b693079d123940787e81a30232a2f4", func := "reedpipe/reedpipelaw18.LaneTurns", spec := "laneTurns", unfollowed := true, recurses := true, apart := false }
def LaneTurnsSaid : Prop := laneTurnsRow.holds Try.pinned (OpenSpec.ofChange laneTurnsSpec)

/-- ITS FALSE NEIGHBOUR: 'it returns false'. Refute it at one input. -/
def laneTurnsWrong : ChangeSpec := { name := "laneTurns", fn := fun _ => fun
  | [d1, d2, d3] => { results := [.lit (.bool false)], args := [d1, d2, d3] }
  | _ => none }
def LaneTurnsWrongFalsely : Prop := laneTurnsRow.holds Try.pinned (OpenSpec.ofChange laneTurnsWrong)

/-- 'reedpipelaw18.LaneBooks': WHATEVER THE INPUT: true; the input reads as it did. -/
def laneBooksSpec : ChangeSpec := { name := "laneBooks", fn := fun _ => fun
  | [d1, d2, d3] => { results := [.lit (.bool true)], args := [d1, d2, d3] }
  | _ => none }
def laneBooksRow : OpenClaim := { program := "ytmkgfgdipkagbaa", sum := "a82fc4809f9b3e224c2bec7a157aee2958b693079d123940787e81a30232a2f4", func := "reedpipe/reedpipelaw18.LaneBooks", spec := "laneBooks", unfollowed := true, recurses := true, apart := false }
def LaneBooksSaid : Prop := laneBooksRow.holds Try.pinned (OpenSpec.ofChange laneBooksSpec)

/-- ITS FALSE NEIGHBOUR: 'it returns false'. Refute it at one input. -/
def laneBooksWrong : ChangeSpec := { name := "laneBooks", fn := fun _ => fun
  | [d1, d2, d3] => { results := [.lit (.bool false)], args := [d1, d2, d3] }
  | _ => none }
def LaneBooksWrongFalsely : Prop := laneBooksRow.holds Try.pinned (OpenSpec.ofChange laneBooksWrong)

/-- 'reedpipelaw18.LaneSplits': WHATEVER THE INPUT: true; the input reads as it did. -/
def laneSplitsSpec : ChangeSpec := { name := "laneSplits", fn := fun _ => fun
  | [d1, d2, d3, d4, d5] => { results := [.lit (.bool true)], args := [d1, d2, d3, d4, d5] }
  | _ => none }
def laneSplitsRow : OpenClaim := { program := "ytmkgfgdipkagbaa", sum := "a82fc4809f9b3e224c2bec7a157aee2958b693079d123940787e81a30232a2f4", func := "reedpipe/reedpipelaw18.LaneSplits", spec := "laneSplits", unfollowed := true, recurses := true, apart := false }
def LaneSplitsSaid : Prop := laneSplitsRow.holds Try.pinned (OpenSpec.ofChange laneSplitsSpec)

/-- ITS FALSE NEIGHBOUR: 'it returns false'. Refute it at one input. -/
def laneSplitsWrong : ChangeSpec := { name := "laneSplits", fn := fun _ => fun
  | [d1, d2, d3, d4, d5] => { results := [.lit (.bool false)], args := [d1, d2, d3, d4, d5] }
  | _ => none }
def LaneSplitsWrongFalsely : Prop := laneSplitsRow.holds Try.pinned (OpenSpec.ofChange laneSplitsWrong)

/- THE SECOND FORM. 'bulk': how many values and letters a reading holds, each counted each time it is reached (what is shared counts as often as it is met; a slice's spare places count too). A statement '..UptoSaid' is the law's where the arguments, and the package variables that the reading takes, are together of bulk at most 1048576: NARROWER than '..Said'. Prove '..Said' where nothing that the law and all that it calls make is longer than what came in: it says more and counts as full. Else prove '..UptoSaid'. A law counts once. -/
mutual
def uptoBulk {H : Type} : DataW H → Nat
  | .lit (.string bytes) => bytes.length + 1
  | .lit _ => 1
  | .nil => 1
  | .ptr d => uptoBulk d + 1
  | .slice elems spare => uptoBulkAll elems + uptoBulkAll spare + 1
  | .agg parts => uptoBulkAll parts + 1
  | .iface _ d => uptoBulk d + 1
  | .map entries => uptoBulkEntries entries + 1
  | .held _ => 1
def uptoBulkAll {H : Type} : List (DataW H) → Nat
  | [] => 0
  | d :: r => uptoBulk d + uptoBulkAll r
def uptoBulkEntries {H : Type} : List (Lit × DataW H) → Nat
  | [] => 0
  | x :: r => uptoBulkEntry x + uptoBulkEntries r
def uptoBulkEntry {H : Type} : Lit × DataW H → Nat
  | (.string bytes, d) => bytes.length + uptoBulk d + 1
  | (_, d) => uptoBulk d + 1
 end
def uptoSmall : (H : Type) → List (DataW H) → Bool := fun _ ds => decide (uptoBulkAll ds ≤ 1048576)
def OpenSpec.upto (s : _root_.Go.ChangeSpec) : _root_.Go.OpenSpec := { _root_.Go.OpenSpec.ofChange s with cond := some uptoSmall }

/-- 'reedpipelaw18.LaneSame', WHERE WHAT IT READS IS OF BULK AT MOST 1048576: true; the input reads as it did. -/
def laneSameUptoRow : OpenClaim := { program := "ytmkgfgdipkagbaa", sum := "a82fc4809f9b3e224c2bec7a157aee2958b693079d123940787e81a30232a2f4", func := "reedpipe/reedpipelaw18.LaneSame", spec := "laneSame", unfollowed := true, recurses := true, apart := false, narrowed := true }
def LaneSameUptoSaid : Prop := laneSameUptoRow.holds Try.pinned (OpenSpec.upto laneSameSpec)

/-- 'reedpipelaw21.TnsbitsNone', WHERE WHAT IT READS IS OF BULK AT MOST 1048576: true; the input reads as it did. -/
def tnsbitsNoneUptoRow : OpenClaim := { program := "ytmkgfgdipkagbaa", sum := "a82fc4809f9b3e224c2bec7a157aee2958b693079d123940787e81a30232a2f4", func := "reedpipe/reedpipelaw21.TnsbitsNone", spec := "tnsbitsNone", unfollowed := true, recurses := true, apart := false, narrowed := true }
def TnsbitsNoneUptoSaid : Prop := tnsbitsNoneUptoRow.holds Try.pinned (OpenSpec.upto tnsbitsNoneSpec)

/-- 'reedpipelaw21.TnsbitsNarrow', WHERE WHAT IT READS IS OF BULK AT MOST 1048576: true; the input reads as it did. -/
def tnsbitsNarrowUptoRow : OpenClaim := { program := "ytmkgfgdipkagbaa", sum := "a82fc4809f9b3e224c2bec7a157aee2958b693079d123940787e81a30232a2f4", func := "reedpipe/reedpipelaw21.TnsbitsNarrow", spec := "tnsbitsNarrow", unfollowed := true, recurses := true, apart := false, narrowed := true }
def TnsbitsNarrowUptoSaid : Prop := tnsbitsNarrowUptoRow.holds Try.pinned (OpenSpec.upto tnsbitsNarrowSpec)

/-- 'reedpipelaw21.TnsbitsNames', WHERE WHAT IT READS IS OF BULK AT MOST 1048576: true; the input reads as it did. -/
def tnsbitsNamesUptoRow : OpenClaim := { program := "ytmkgfgdipkagbaa", sum := "a82fc4809f9b3e224c2bec7a157aee2958b693079d123940787e81a30232a2f4", func := "reedpipe/reedpipelaw21.TnsbitsNames", spec := "tnsbitsNames", unfollowed := true, recurses := true, apart := false, narrowed := true }
def TnsbitsNamesUptoSaid : Prop := tnsbitsNamesUptoRow.holds Try.pinned (OpenSpec.upto tnsbitsNamesSpec)

/-- 'reedpipelaw21.TnsbitsBack', WHERE WHAT IT READS IS OF BULK AT MOST 1048576: true; the input reads as it did. -/
def tnsbitsBackUptoRow : OpenClaim := { program := "ytmkgfgdipkagbaa", sum := "a82fc4809f9b3e224c2bec7a157aee2958b693079d123940787e81a30232a2f4", func := "reedpipe/reedpipelaw21.TnsbitsBack", spec := "tnsbitsBack", unfollowed := true, recurses := true, apart := false, narrowed := true }
def TnsbitsBackUptoSaid : Prop := tnsbitsBackUptoRow.holds Try.pinned (OpenSpec.upto tnsbitsBackSpec)

/-- 'reedpipelaw18.LaneNames', WHERE WHAT IT READS IS OF BULK AT MOST 1048576: true; the input reads as it did. -/
def laneNamesUptoRow : OpenClaim := { program := "ytmkgfgdipkagbaa", sum := "a82fc4809f9b3e224c2bec7a157aee2958b693079d123940787e81a30232a2f4", func := "reedpipe/reedpipelaw18.LaneNames", spec := "laneNames", unfollowed := true, recurses := true, apart := false, narrowed := true }
def LaneNamesUptoSaid : Prop := laneNamesUptoRow.holds Try.pinned (OpenSpec.upto laneNamesSpec)

/-- 'reedpipelaw18.LaneTells', WHERE WHAT IT READS IS OF BULK AT MOST 1048576: true; the input reads as it did. -/
def laneTellsUptoRow : OpenClaim := { program := "ytmkgfgdipkagbaa", sum := "a82fc4809f9b3e224c2bec7a157aee2958b693079d123940787e81a30232a2f4", func := "reedpipe/reedpipelaw18.LaneTells", spec := "laneTells", unfollowed := true, recurses := true, apart := false, narrowed := true }
def LaneTellsUptoSaid : Prop := laneTellsUptoRow.holds Try.pinned (OpenSpec.upto laneTellsSpec)

/-- 'reedpipelaw18.LaneZero', WHERE WHAT IT READS IS OF BULK AT MOST 1048576: true; the input reads as it did. -/
def laneZeroUptoRow : OpenClaim := { program := "ytmkgfgdipkagbaa", sum := "a82fc4809f9b3e224c2bec7a157aee2958b693079d123940787e81a30232a2f4", func := "reedpipe/reedpipelaw18.LaneZero", spec := "laneZero", unfollowed := true, recurses := true, apart := false, narrowed := true }
def LaneZeroUptoSaid : Prop := laneZeroUptoRow.holds Try.pinned (OpenSpec.upto laneZeroSpec)

/-- 'reedpipelaw18.LaneTurns', WHERE WHAT IT READS IS OF BULK AT MOST 1048576: true; the input reads as it did. -/
def laneTurnsUptoRow : OpenClaim := { program := "ytmkgfgdipkagbaa", sum := "a82fc4809f9b3e224c2bec7a157aee2958b693079d123940787e81a30232a2f4", func := "reedpipe/reedpipelaw18.LaneTurns", spec := "laneTurns", unfollowed := true, recurses := true, apart := false, narrowed := true }
def LaneTurnsUptoSaid : Prop := laneTurnsUptoRow.holds Try.pinned (OpenSpec.upto laneTurnsSpec)

/-- 'reedpipelaw18.LaneBooks', WHERE WHAT IT READS IS OF BULK AT MOST 1048576: true; the input reads as it did. -/
def laneBooksUptoRow : OpenClaim := { program := "ytmkgfgdipkagbaa", sum := "a82fc4809f9b3e224c2bec7a157aee2958b693079d123940787e81a30232a2f4", func := "reedpipe/reedpipelaw18.LaneBooks", spec := "laneBooks", unfollowed := true, recurses := true, apart := false, narrowed := true }
def LaneBooksUptoSaid : Prop := laneBooksUptoRow.holds Try.pinned (OpenSpec.upto laneBooksSpec)

/-- 'reedpipelaw18.LaneSplits', WHERE WHAT IT READS IS OF BULK AT MOST 1048576: true; the input reads as it did. -/
def laneSplitsUptoRow : OpenClaim := { program := "ytmkgfgdipkagbaa", sum := "a82fc4809f9b3e224c2bec7a157aee2958b693079d123940787e81a30232a2f4", func := "reedpipe/reedpipelaw18.LaneSplits", spec := "laneSplits", unfollowed := true, recurses := true, apart := false, narrowed := true }
def LaneSplitsUptoSaid : Prop := laneSplitsUptoRow.holds Try.pinned (OpenSpec.upto laneSplitsSpec)

end Rows
end Go.Proofs.Ytmkgfgdipkagbaa
