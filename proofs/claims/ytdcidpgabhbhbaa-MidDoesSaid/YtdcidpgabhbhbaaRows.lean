/-
  No cell of these rows narrows 'for every input' (looked for: loops, veiled, ifaces, maps, wideKeys, modest, calm, conditions, laid).
  DERIVED. THE GIVEN ROWS OF THIS SEAT. 9 by the template 'for every input the law returns true; each argument reads behind the call as it read before'; 0 by the template 'total and deterministic' (their statements: YtdcidpgabhbhbaaTotals.lean).
  GIVEN WITH THE SEED: the statements are not yours to turn. If you find one false, say at which input.
  Laid BY PROGRAM, IN A SANDBOX (cutbox-rows.mjs): the forced cells as the released guide's own fill.sh prints them over the translation baef1a66b645e17e… (all of the seat's roots in one cut). By AI agents, Wed Nov 11 2026. No macro, syntax, notation, axiom, sorry.
-/
import Derived.Test.YtdcidpgabhbhbaaChecked
import GoSem.Claim
import GoSem.ClaimJoined
import GoSem.ClaimMapViews
import Derived.JoinedTies
import Derived.KernelRfl
namespace Go.Proofs.Ytdcidpgabhbhbaa
/- THE CELL 'sum', in the pinned program and in every row, IS THE sha256 OF THE DUMP (.gsa) THAT YtdcidpgabhbhbaaProg.lean LOADS. Nothing in Lean hashes anything: it is a label: what it is worth is what the hold of that sum in a sandbox is worth. -/
noncomputable def Try.pinned : Pinned := { name := "ytdcidpgabhbhbaa", sum := "baef1a66b645e17e35f5bed0eb47876d344fce402c34575995701105c860bf65", checked := Try.checked }
namespace Rows
def none {H : Type} : Left H := { results := [], args := [] }

/-- 'reedpipelaw30.LoseBetween': WHATEVER THE INPUT: true; the input reads as it did. -/
def loseBetweenSpec : ChangeSpec := { name := "loseBetween", fn := fun _ => fun
  | [d1, d2, d3, d4] => { results := [.lit (.bool true)], args := [d1, d2, d3, d4] }
  | _ => none }
def loseBetweenRow : OpenClaim := { program := "ytdcidpgabhbhbaa", sum := "baef1a66b645e17e35f5bed0eb47876d344fce402c34575995701105c860bf65", func := "reedpipe/reedpipelaw30.LoseBetween", spec := "loseBetween", unfollowed := true, recurses := true, apart := false }
def LoseBetweenSaid : Prop := loseBetweenRow.holds Try.pinned (OpenSpec.ofChange loseBetweenSpec)

/-- ITS FALSE NEIGHBOUR: 'it returns false'. Refute it at one input. -/
def loseBetweenWrong : ChangeSpec := { name := "loseBetween", fn := fun _ => fun
  | [d1, d2, d3, d4] => { results := [.lit (.bool false)], args := [d1, d2, d3, d4] }
  | _ => none }
def LoseBetweenWrongFalsely : Prop := loseBetweenRow.holds Try.pinned (OpenSpec.ofChange loseBetweenWrong)

/-- 'reedpipelaw30.LoseEach': WHATEVER THE INPUT: true; the input reads as it did. -/
def loseEachSpec : ChangeSpec := { name := "loseEach", fn := fun _ => fun
  | [d1, d2, d3, d4, d5] => { results := [.lit (.bool true)], args := [d1, d2, d3, d4, d5] }
  | _ => none }
def loseEachRow : OpenClaim := { program := "ytdcidpgabhbhbaa", sum := "baef1a66b645e17e35f5bed0eb47876d344fce402c34575995701105c860bf65", func := "reedpipe/reedpipelaw30.LoseEach", spec := "loseEach", unfollowed := true, recurses := true, apart := false }
def LoseEachSaid : Prop := loseEachRow.holds Try.pinned (OpenSpec.ofChange loseEachSpec)

/-- ITS FALSE NEIGHBOUR: 'it returns false'. Refute it at one input. -/
def loseEachWrong : ChangeSpec := { name := "loseEach", fn := fun _ => fun
  | [d1, d2, d3, d4, d5] => { results := [.lit (.bool false)], args := [d1, d2, d3, d4, d5] }
  | _ => none }
def LoseEachWrongFalsely : Prop := loseEachRow.holds Try.pinned (OpenSpec.ofChange loseEachWrong)

/-- 'reedpipelaw17.MidNames': WHATEVER THE INPUT: true; the input reads as it did. -/
def midNamesSpec : ChangeSpec := { name := "midNames", fn := fun _ => fun
  | [] => { results := [.lit (.bool true)], args := [] }
  | _ => none }
def midNamesRow : OpenClaim := { program := "ytdcidpgabhbhbaa", sum := "baef1a66b645e17e35f5bed0eb47876d344fce402c34575995701105c860bf65", func := "reedpipe/reedpipelaw17.MidNames", spec := "midNames", unfollowed := true, recurses := true, apart := false }
def MidNamesSaid : Prop := midNamesRow.holds Try.pinned (OpenSpec.ofChange midNamesSpec)

/-- ITS FALSE NEIGHBOUR: 'it returns false'. Refute it at one input. -/
def midNamesWrong : ChangeSpec := { name := "midNames", fn := fun _ => fun
  | [] => { results := [.lit (.bool false)], args := [] }
  | _ => none }
def MidNamesWrongFalsely : Prop := midNamesRow.holds Try.pinned (OpenSpec.ofChange midNamesWrong)

/-- 'reedpipelaw17.MidDoes': WHATEVER THE INPUT: true; the input reads as it did. -/
def midDoesSpec : ChangeSpec := { name := "midDoes", fn := fun _ => fun
  | [d1, d2] => { results := [.lit (.bool true)], args := [d1, d2] }
  | _ => none }
def midDoesRow : OpenClaim := { program := "ytdcidpgabhbhbaa", sum := "baef1a66b645e17e35f5bed0eb47876d344fce402c34575995701105c860bf65", func := "reedpipe/reedpipelaw17.MidDoes", spec := "midDoes", unfollowed := true, recurses := true, apart := false }
def MidDoesSaid : Prop := midDoesRow.holds Try.pinned (OpenSpec.ofChange midDoesSpec)

/-- ITS FALSE NEIGHBOUR: 'it returns false'. Refute it at one input. -/
def midDoesWrong : ChangeSpec := { name := "midDoes", fn := fun _ => fun
  | [d1, d2] => { results := [.lit (.bool false)], args := [d1, d2] }
  | _ => none }
def MidDoesWrongFalsely : Prop := midDoesRow.holds Try.pinned (OpenSpec.ofChange midDoesWrong)

/-- 'reedpipelaw17.MidBack': WHATEVER THE INPUT: true; the input reads as it did. -/
def midBackSpec : ChangeSpec := { name := "midBack", fn := fun _ => fun
  | [d1, d2] => { results := [.lit (.bool true)], args := [d1, d2] }
  | _ => none }
def midBackRow : OpenClaim := { program := "ytdcidpgabhbhbaa", sum := "baef1a66b645e17e35f5bed0eb47876d344fce402c34575995701105c860bf65", func := "reedpipe/reedpipelaw17.MidBack", spec := "midBack", unfollowed := true, recurses := true, apart := false }
def MidBackSaid : Prop := midBackRow.holds Try.pinned (OpenSpec.ofChange midBackSpec)

/-- ITS FALSE NEIGHBOUR: 'it returns false'. Refute it at one input. -/
def midBackWrong : ChangeSpec := { name := "midBack", fn := fun _ => fun
  | [d1, d2] => { results := [.lit (.bool false)], args := [d1, d2] }
  | _ => none }
def MidBackWrongFalsely : Prop := midBackRow.holds Try.pinned (OpenSpec.ofChange midBackWrong)

/-- 'reedpipelaw17.MidTurns': WHATEVER THE INPUT: true; the input reads as it did. -/
def midTurnsSpec : ChangeSpec := { name := "midTurns", fn := fun _ => fun
  | [d1, d2, d3] => { results := [.lit (.bool true)], args := [d1, d2, d3] }
  | _ => none }
def midTurnsRow : OpenClaim := { program := "ytdcidpgabhbhbaa", sum := "baef1a66b645e17e35f5bed0eb47876d344fce402c34575995701105c860bf65", func := "reedpipe/reedpipelaw17.MidTurns", spec := "midTurns", unfollowed := true, recurses := true, apart := false }
def MidTurnsSaid : Prop := midTurnsRow.holds Try.pinned (OpenSpec.ofChange midTurnsSpec)

/-- ITS FALSE NEIGHBOUR: 'it returns false'. Refute it at one input. -/
def midTurnsWrong : ChangeSpec := { name := "midTurns", fn := fun _ => fun
  | [d1, d2, d3] => { results := [.lit (.bool false)], args := [d1, d2, d3] }
  | _ => none }
def MidTurnsWrongFalsely : Prop := midTurnsRow.holds Try.pinned (OpenSpec.ofChange midTurnsWrong)

/-- 'reedpipelaw30.LoseNames': WHATEVER THE INPUT: true; the input reads as it did. -/
def loseNamesSpec : ChangeSpec := { name := "loseNames", fn := fun _ => fun
  | [] => { results := [.lit (.bool true)], args := [] }
  | _ => none }
def loseNamesRow : OpenClaim := { program := "ytdcidpgabhbhbaa", sum := "baef1a66b645e17e35f5bed0eb47876d344fce402c34575995701105c860bf65", func := "reedpipe/reedpipelaw30.LoseNames", spec := "loseNames", unfollowed := true, recurses := true, apart := false }
def LoseNamesSaid : Prop := loseNamesRow.holds Try.pinned (OpenSpec.ofChange loseNamesSpec)

/-- ITS FALSE NEIGHBOUR: 'it returns false'. Refute it at one input. -/
def loseNamesWrong : ChangeSpec := { name := "loseNames", fn := fun _ => fun
  | [] => { results := [.lit (.bool false)], args := [] }
  | _ => none }
def LoseNamesWrongFalsely : Prop := loseNamesRow.holds Try.pinned (OpenSpec.ofChange loseNamesWrong)

/-- 'reedpipelaw30.LoseDoes': WHATEVER THE INPUT: true; the input reads as it did. -/
def loseDoesSpec : ChangeSpec := { name := "loseDoes", fn := fun _ => fun
  | [d1, d2, d3, d4, d5] => { results := [.lit (.bool true)], args := [d1, d2, d3, d4, d5] }
  | _ => none }
def loseDoesRow : OpenClaim := { program := "ytdcidpgabhbhbaa", sum := "baef1a66b645e17e35f5bed0eb47876d344fce402c34575995701105c860bf65", func := "reedpipe/reedpipelaw30.LoseDoes", spec := "loseDoes", unfollowed := true, recurses := true, apart := false }
def LoseDoesSaid : Prop := loseDoesRow.holds Try.pinned (OpenSpec.ofChange loseDoesSpec)

/-- ITS FALSE NEIGHBOUR: 'it returns false'. Refute it at one input. -/
def loseDoesWrong : ChangeSpec := { name := "loseDoes", fn := fun _ => fun
  | [d1, d2, d3, d4, d5] => { results := [.lit (.bool false)], args := [d1, d2, d3, d4, d5] }
  | _ => none }
def LoseDoesWrongFalsely : Prop := loseDoesRow.holds Try.pinned (OpenSpec.ofChange loseDoesWrong)

/-- 'reedpipelaw30.LoseFollows': WHATEVER THE INPUT: true; the input reads as it did. -/
def loseFollowsSpec : ChangeSpec := { name := "loseFollows", fn := fun _ => fun
  | [d] => { results := [.lit (.bool true)], args := [d] }
  | _ => none }
def loseFollowsRow : OpenClaim := { program := "ytdcidpgabhbhbaa", sum := "baef1a66b645e17e35f5bed0eb47876d344fce402c34575995701105c860bf65", func := "reedpipe/reedpipelaw30.LoseFollows", spec := "loseFollows", unfollowed := true, recurses := true, apart := false }
def LoseFollowsSaid : Prop := loseFollowsRow.holds Try.pinned (OpenSpec.ofChange loseFollowsSpec)

/-- ITS FALSE NEIGHBOUR: 'it returns false'. Refute it at one input. -/
def loseFollowsWrong : ChangeSpec := { name := "loseFollows", fn := fun _ => fun
  | [d] => { results := [.lit (.bool false)], args := [d] }
  | _ => none }
def LoseFollowsWrongFalsely : Prop := loseFollowsRow.holds Try.pinned (OpenSpec.ofChange loseFollowsWrong)

/- THE SECOND FORM. 'bulk': how many values and letters a reading holds, each counted each time it is reached (what is shared counts as often as it is met; a slice's spare places count too). A statement '..UptoSaid' is the law's where the arguments, and the package variables that the reading takes, are together of bulk at most 1048576: NARROWER than '..Said'. Prove '..Said' where nothing that the law and all that it calls make is longer than what came in: it says more and counts as full. Else prove '..UptoSaid'. A law counts once. -/
mutual
def uptoBulk {H : Type} : DataW H → Nat
  | .lit (.string bytes) => bytes.length + 1
  | .lit _ => 1
  | .nil => 1
  | .ptr d => uptoBulk d + 1
  | .slice elems spare => uptoBulkAll elems + uptoBulkAll spare + 1
  | .agg parts => uptoBulkAll parts + 1
  | .iface _ d => uptoBulk d + 1
  | .map entries => uptoBulkEntries entries + 1
  | .held _ => 1
def uptoBulkAll {H : Type} : List (DataW H) → Nat
  | [] => 0
  | d :: r => uptoBulk d + uptoBulkAll r
def uptoBulkEntries {H : Type} : List (Lit × DataW H) → Nat
  | [] => 0
  | x :: r => uptoBulkEntry x + uptoBulkEntries r
def uptoBulkEntry {H : Type} : Lit × DataW H → Nat
  | (.string bytes, d) => bytes.length + uptoBulk d + 1
  | (_, d) => uptoBulk d + 1
 end
def uptoSmall : (H : Type) → List (DataW H) → Bool := fun _ ds => decide (uptoBulkAll ds ≤ 1048576)
def OpenSpec.upto (s : _root_.Go.ChangeSpec) : _root_.Go.OpenSpec := { _root_.Go.OpenSpec.ofChange s with cond := some uptoSmall }

/-- 'reedpipelaw30.LoseBetween', WHERE WHAT IT READS IS OF BULK AT MOST 1048576: true; the input reads as it did. -/
def loseBetweenUptoRow : OpenClaim := { program := "ytdcidpgabhbhbaa", sum := "baef1a66b645e17e35f5bed0eb47876d344fce402c34575995701105c860bf65", func := "reedpipe/reedpipelaw30.LoseBetween", spec := "loseBetween", unfollowed := true, recurses := true, apart := false, narrowed := true }
def LoseBetweenUptoSaid : Prop := loseBetweenUptoRow.holds Try.pinned (OpenSpec.upto loseBetweenSpec)

/-- 'reedpipelaw30.LoseEach', WHERE WHAT IT READS IS OF BULK AT MOST 1048576: true; the input reads as it did. -/
def loseEachUptoRow : OpenClaim := { program := "ytdcidpgabhbhbaa", sum := "baef1a66b645e17e35f5bed0eb47876d344fce402c34575995701105c860bf65", func := "reedpipe/reedpipelaw30.LoseEach", spec := "loseEach", unfollowed := true, recurses := true, apart := false, narrowed := true }
def LoseEachUptoSaid : Prop := loseEachUptoRow.holds Try.pinned (OpenSpec.upto loseEachSpec)

/-- 'reedpipelaw17.MidNames', WHERE WHAT IT READS IS OF BULK AT MOST 1048576: true; the input reads as it did. -/
def midNamesUptoRow : OpenClaim := { program := "ytdcidpgabhbhbaa", sum := "baef1a66b645e17e35f5bed0eb47876d344fce402c34575995701105c860bf65", func := "reedpipe/reedpipelaw17.MidNames", spec := "midNames", unfollowed := true, recurses := true, apart := false, narrowed := true }
def MidNamesUptoSaid : Prop := midNamesUptoRow.holds Try.pinned (OpenSpec.upto midNamesSpec)

/-- 'reedpipelaw17.MidDoes', WHERE WHAT IT READS IS OF BULK AT MOST 1048576: true; the input reads as it did. -/
def midDoesUptoRow : OpenClaim := { program := "ytdcidpgabhbhbaa", sum := "baef1a66b645e17e35f5bed0eb47876d344fce402c34575995701105c860bf65", func := "reedpipe/reedpipelaw17.MidDoes", spec := "midDoes", unfollowed := true, recurses := true, apart := false, narrowed := true }
def MidDoesUptoSaid : Prop := midDoesUptoRow.holds Try.pinned (OpenSpec.upto midDoesSpec)

/-- 'reedpipelaw17.MidBack', WHERE WHAT IT READS IS OF BULK AT MOST 1048576: true; the input reads as it did. -/
def midBackUptoRow : OpenClaim := { program := "ytdcidpgabhbhbaa", sum := "baef1a66b645e17e35f5bed0eb47876d344fce402c34575995701105c860bf65", func := "reedpipe/reedpipelaw17.MidBack", spec := "midBack", unfollowed := true, recurses := true, apart := false, narrowed := true }
def MidBackUptoSaid : Prop := midBackUptoRow.holds Try.pinned (OpenSpec.upto midBackSpec)

/-- 'reedpipelaw17.MidTurns', WHERE WHAT IT READS IS OF BULK AT MOST 1048576: true; the input reads as it did. -/
def midTurnsUptoRow : OpenClaim := { program := "ytdcidpgabhbhbaa", sum := "baef1a66b645e17e35f5bed0eb47876d344fce402c34575995701105c860bf65", func := "reedpipe/reedpipelaw17.MidTurns", spec := "midTurns", unfollowed := true, recurses := true, apart := false, narrowed := true }
def MidTurnsUptoSaid : Prop := midTurnsUptoRow.holds Try.pinned (OpenSpec.upto midTurnsSpec)

/-- 'reedpipelaw30.LoseNames', WHERE WHAT IT READS IS OF BULK AT MOST 1048576: true; the input reads as it did. -/
def loseNamesUptoRow : OpenClaim := { program := "ytdcidpgabhbhbaa", sum := "baef1a66b645e17e35f5bed0eb47876d344fce402c34575995701105c860bf65", func := "reedpipe/reedpipelaw30.LoseNames", spec := "loseNames", unfollowed := true, recurses := true, apart := false, narrowed := true }
def LoseNamesUptoSaid : Prop := loseNamesUptoRow.holds Try.pinned (OpenSpec.upto loseNamesSpec)

/-- 'reedpipelaw30.LoseDoes', WHERE WHAT IT READS IS OF BULK AT MOST 1048576: true; the input reads as it did. -/
def loseDoesUptoRow : OpenClaim := { program := "ytdcidpgabhbhbaa", sum := "baef1a66b645e17e35f5bed0eb47876d344fce402c34575995701105c860bf65", func := "reedpipe/reedpipelaw30.LoseDoes", spec := "loseDoes", unfollowed := true, recurses := true, apart := false, narrowed := true }
def LoseDoesUptoSaid : Prop := loseDoesUptoRow.holds Try.pinned (OpenSpec.upto loseDoesSpec)

/-- 'reedpipelaw30.LoseFollows', WHERE WHAT IT READS IS OF BULK AT MOST 1048576: true; the input reads as it did. -/
def loseFollowsUptoRow : OpenClaim := { program := "ytdcidpgabhbhbaa", sum := "baef1a66b645e17e35f5bed0eb47876d344fce402c34575995701105c860bf65", func := "reedpipe/reedpipelaw30.LoseFollows", spec := "loseFollows", unfollowed := true, recurses := true, apart := false, narrowed := true }
def LoseFollowsUptoSaid : Prop := loseFollowsUptoRow.holds Try.pinned (OpenSpec.upto loseFollowsSpec)

end Rows
end Go.Proofs.Ytdcidpgabhbhbaa
