/-
  No cell of these rows narrows 'for every input' (looked for: loops, veiled, ifaces, maps, wideKeys, modest, calm, conditions, laid).
  DERIVED. THE GIVEN ROWS OF THIS SEAT. 7 by the template 'for every input the law returns true; each argument reads behind the call as it read before'; 0 by the template 'total and deterministic' (their statements: YtjkpbhjppjamnaaTotals.lean).
  GIVEN WITH THE SEED: the statements are not yours to turn. If you find one false, say at which input.
  Laid BY PROGRAM, IN A SANDBOX (cutbox-rows.mjs): the forced cells as the released guide's own fill.sh prints them over the translation 912837066d71ebce… (all of the seat's roots in one cut). By AI agents, Wed Nov 11 2026. No macro, syntax, notation, axiom, sorry.
-/
import Derived.Test.YtjkpbhjppjamnaaChecked
import GoSem.Claim
import GoSem.ClaimJoined
import GoSem.ClaimMapViews
import Derived.JoinedTies
import Derived.KernelRfl
namespace Go.Proofs.Ytjkpbhjppjamnaa
/- THE CELL 'sum', in the pinned program and in every row, IS THE sha256 OF THE DUMP (.gsa) THAT YtjkpbhjppjamnaaProg.lean LOADS. Nothing in Lean hashes anything: it is a label: what it is worth is what the hold of that sum in a sandbox is worth. -/
noncomputable def Try.pinned : Pinned := { name := "ytjkpbhjppjamnaa", sum := "912837066d71ebce09d420c9f53cacdf281f13cb340eff3a471d70970c363902", checked := Try.checked }
namespace Rows
def none {H : Type} : Left H := { results := [], args := [] }

/-- 'reedpipelaw08.BookCodes': WHATEVER THE INPUT: true; the input reads as it did. -/
def bookCodesSpec : ChangeSpec := { name := "bookCodes", fn := fun _ => fun
  | [d1, d2, d3, d4] => { results := [.lit (.bool true)], args := [d1, d2, d3, d4] }
  | _ => none }
def bookCodesRow : OpenClaim := { program := "ytjkpbhjppjamnaa", sum := "912837066d71ebce09d420c9f53cacdf281f13cb340eff3a471d70970c363902", func := "reedpipe/reedpipelaw08.BookCodes", spec := "bookCodes", unfollowed := true, recurses := true, apart := false }
def BookCodesSaid : Prop := bookCodesRow.holds Try.pinned (OpenSpec.ofChange bookCodesSpec)

/-- ITS FALSE NEIGHBOUR: 'it returns false'. Refute it at one input. -/
def bookCodesWrong : ChangeSpec := { name := "bookCodes", fn := fun _ => fun
  | [d1, d2, d3, d4] => { results := [.lit (.bool false)], args := [d1, d2, d3, d4] }
  | _ => none }
def BookCodesWrongFalsely : Prop := bookCodesRow.holds Try.pinned (OpenSpec.ofChange bookCodesWrong)

/-- 'reedpipelaw08.BookTells': WHATEVER THE INPUT: true; the input reads as it did. -/
def bookTellsSpec : ChangeSpec := { name := "bookTells", fn := fun _ => fun
  | [d1, d2, d3] => { results := [.lit (.bool true)], args := [d1, d2, d3] }
  | _ => none }
def bookTellsRow : OpenClaim := { program := "ytjkpbhjppjamnaa", sum := "912837066d71ebce09d420c9f53cacdf281f13cb340eff3a471d70970c363902", func := "reedpipe/reedpipelaw08.BookTells", spec := "bookTells", unfollowed := true, recurses := true, apart := false }
def BookTellsSaid : Prop := bookTellsRow.holds Try.pinned (OpenSpec.ofChange bookTellsSpec)

/-- ITS FALSE NEIGHBOUR: 'it returns false'. Refute it at one input. -/
def bookTellsWrong : ChangeSpec := { name := "bookTells", fn := fun _ => fun
  | [d1, d2, d3] => { results := [.lit (.bool false)], args := [d1, d2, d3] }
  | _ => none }
def BookTellsWrongFalsely : Prop := bookTellsRow.holds Try.pinned (OpenSpec.ofChange bookTellsWrong)

/-- 'reedpipelaw08.BookEntries': WHATEVER THE INPUT: true; the input reads as it did. -/
def bookEntriesSpec : ChangeSpec := { name := "bookEntries", fn := fun _ => fun
  | [d1, d2, d3] => { results := [.lit (.bool true)], args := [d1, d2, d3] }
  | _ => none }
def bookEntriesRow : OpenClaim := { program := "ytjkpbhjppjamnaa", sum := "912837066d71ebce09d420c9f53cacdf281f13cb340eff3a471d70970c363902", func := "reedpipe/reedpipelaw08.BookEntries", spec := "bookEntries", unfollowed := true, recurses := true, apart := false }
def BookEntriesSaid : Prop := bookEntriesRow.holds Try.pinned (OpenSpec.ofChange bookEntriesSpec)

/-- ITS FALSE NEIGHBOUR: 'it returns false'. Refute it at one input. -/
def bookEntriesWrong : ChangeSpec := { name := "bookEntries", fn := fun _ => fun
  | [d1, d2, d3] => { results := [.lit (.bool false)], args := [d1, d2, d3] }
  | _ => none }
def BookEntriesWrongFalsely : Prop := bookEntriesRow.holds Try.pinned (OpenSpec.ofChange bookEntriesWrong)

/-- 'reedpipelaw08.BookShort': WHATEVER THE INPUT: true; the input reads as it did. -/
def bookShortSpec : ChangeSpec := { name := "bookShort", fn := fun _ => fun
  | [d1, d2, d3] => { results := [.lit (.bool true)], args := [d1, d2, d3] }
  | _ => none }
def bookShortRow : OpenClaim := { program := "ytjkpbhjppjamnaa", sum := "912837066d71ebce09d420c9f53cacdf281f13cb340eff3a471d70970c363902", func := "reedpipe/reedpipelaw08.BookShort", spec := "bookShort", unfollowed := true, recurses := true, apart := false }
def BookShortSaid : Prop := bookShortRow.holds Try.pinned (OpenSpec.ofChange bookShortSpec)

/-- ITS FALSE NEIGHBOUR: 'it returns false'. Refute it at one input. -/
def bookShortWrong : ChangeSpec := { name := "bookShort", fn := fun _ => fun
  | [d1, d2, d3] => { results := [.lit (.bool false)], args := [d1, d2, d3] }
  | _ => none }
def BookShortWrongFalsely : Prop := bookShortRow.holds Try.pinned (OpenSpec.ofChange bookShortWrong)

/-- 'reedpipelaw08.BookRanks': WHATEVER THE INPUT: true; the input reads as it did. -/
def bookRanksSpec : ChangeSpec := { name := "bookRanks", fn := fun _ => fun
  | [d1, d2] => { results := [.lit (.bool true)], args := [d1, d2] }
  | _ => none }
def bookRanksRow : OpenClaim := { program := "ytjkpbhjppjamnaa", sum := "912837066d71ebce09d420c9f53cacdf281f13cb340eff3a471d70970c363902", func := "reedpipe/reedpipelaw08.BookRanks", spec := "bookRanks", unfollowed := true, recurses := true, apart := false }
def BookRanksSaid : Prop := bookRanksRow.holds Try.pinned (OpenSpec.ofChange bookRanksSpec)

/-- ITS FALSE NEIGHBOUR: 'it returns false'. Refute it at one input. -/
def bookRanksWrong : ChangeSpec := { name := "bookRanks", fn := fun _ => fun
  | [d1, d2] => { results := [.lit (.bool false)], args := [d1, d2] }
  | _ => none }
def BookRanksWrongFalsely : Prop := bookRanksRow.holds Try.pinned (OpenSpec.ofChange bookRanksWrong)

/-- 'reedpipelaw08.BookNames': WHATEVER THE INPUT: true; the input reads as it did. -/
def bookNamesSpec : ChangeSpec := { name := "bookNames", fn := fun _ => fun
  | [] => { results := [.lit (.bool true)], args := [] }
  | _ => none }
def bookNamesRow : OpenClaim := { program := "ytjkpbhjppjamnaa", sum := "912837066d71ebce09d420c9f53cacdf281f13cb340eff3a471d70970c363902", func := "reedpipe/reedpipelaw08.BookNames", spec := "bookNames", unfollowed := true, recurses := true, apart := false }
def BookNamesSaid : Prop := bookNamesRow.holds Try.pinned (OpenSpec.ofChange bookNamesSpec)

/-- ITS FALSE NEIGHBOUR: 'it returns false'. Refute it at one input. -/
def bookNamesWrong : ChangeSpec := { name := "bookNames", fn := fun _ => fun
  | [] => { results := [.lit (.bool false)], args := [] }
  | _ => none }
def BookNamesWrongFalsely : Prop := bookNamesRow.holds Try.pinned (OpenSpec.ofChange bookNamesWrong)

/-- 'reedpipelaw08.BookPrefix': WHATEVER THE INPUT: true; the input reads as it did. -/
def bookPrefixSpec : ChangeSpec := { name := "bookPrefix", fn := fun _ => fun
  | [d1, d2, d3, d4, d5] => { results := [.lit (.bool true)], args := [d1, d2, d3, d4, d5] }
  | _ => none }
def bookPrefixRow : OpenClaim := { program := "ytjkpbhjppjamnaa", sum := "912837066d71ebce09d420c9f53cacdf281f13cb340eff3a471d70970c363902", func := "reedpipe/reedpipelaw08.BookPrefix", spec := "bookPrefix", unfollowed := true, recurses := true, apart := false }
def BookPrefixSaid : Prop := bookPrefixRow.holds Try.pinned (OpenSpec.ofChange bookPrefixSpec)

/-- ITS FALSE NEIGHBOUR: 'it returns false'. Refute it at one input. -/
def bookPrefixWrong : ChangeSpec := { name := "bookPrefix", fn := fun _ => fun
  | [d1, d2, d3, d4, d5] => { results := [.lit (.bool false)], args := [d1, d2, d3, d4, d5] }
  | _ => none }
def BookPrefixWrongFalsely : Prop := bookPrefixRow.holds Try.pinned (OpenSpec.ofChange bookPrefixWrong)

/- THE SECOND FORM. 'bulk': how many values and letters a reading holds, each counted each time it is reached (what is shared counts as often as it is met; a slice's spare places count too). A statement '..UptoSaid' is the law's where the arguments, and the package variables that the reading takes, are together of bulk at most 1048576: NARROWER than '..Said'. Prove '..Said' where nothing that the law and all that it calls make is longer than what came in: it says more and counts as full. Else prove '..UptoSaid'. A law counts once. -/
mutual
def uptoBulk {H : Type} : DataW H → Nat
  | .lit (.string bytes) => bytes.length + 1
  | .lit _ => 1
  | .nil => 1
  | .ptr d => uptoBulk d + 1
  | .slice elems spare => uptoBulkAll elems + uptoBulkAll spare + 1
  | .agg parts => uptoBulkAll parts + 1
  | .iface _ d => uptoBulk d + 1
  | .map entries => uptoBulkEntries entries + 1
  | .held _ => 1
def uptoBulkAll {H : Type} : List (DataW H) → Nat
  | [] => 0
  | d :: r => uptoBulk d + uptoBulkAll r
def uptoBulkEntries {H : Type} : List (Lit × DataW H) → Nat
  | [] => 0
  | x :: r => uptoBulkEntry x + uptoBulkEntries r
def uptoBulkEntry {H : Type} : Lit × DataW H → Nat
  | (.string bytes, d) => bytes.length + uptoBulk d + 1
  | (_, d) => uptoBulk d + 1
 end
def uptoSmall : (H : Type) → List (DataW H) → Bool := fun _ ds => decide (uptoBulkAll ds ≤ 1048576)
def OpenSpec.upto (s : _root_.Go.ChangeSpec) : _root_.Go.OpenSpec := { _root_.Go.OpenSpec.ofChange s with cond := some uptoSmall }

/-- 'reedpipelaw08.BookCodes', WHERE WHAT IT READS IS OF BULK AT MOST 1048576: true; the input reads as it did. -/
def bookCodesUptoRow : OpenClaim := { program := "ytjkpbhjppjamnaa", sum := "912837066d71ebce09d420c9f53cacdf281f13cb340eff3a471d70970c363902", func := "reedpipe/reedpipelaw08.BookCodes", spec := "bookCodes", unfollowed := true, recurses := true, apart := false, narrowed := true }
def BookCodesUptoSaid : Prop := bookCodesUptoRow.holds Try.pinned (OpenSpec.upto bookCodesSpec)

/-- 'reedpipelaw08.BookTells', WHERE WHAT IT READS IS OF BULK AT MOST 1048576: true; the input reads as it did. -/
def bookTellsUptoRow : OpenClaim := { program := "ytjkpbhjppjamnaa", sum := "912837066d71ebce09d420c9f53cacdf281f13cb340eff3a471d70970c363902", func := "reedpipe/reedpipelaw08.BookTells", spec := "bookTells", unfollowed := true, recurses := true, apart := false, narrowed := true }
def BookTellsUptoSaid : Prop := bookTellsUptoRow.holds Try.pinned (OpenSpec.upto bookTellsSpec)

/-- 'reedpipelaw08.BookEntries', WHERE WHAT IT READS IS OF BULK AT MOST 1048576: true; the input reads as it did. -/
def bookEntriesUptoRow : OpenClaim := { program := "ytjkpbhjppjamnaa", sum := "912837066d71ebce09d420c9f53cacdf281f13cb340eff3a471d70970c363902", func := "reedpipe/reedpipelaw08.BookEntries", spec := "bookEntries", unfollowed := true, recurses := true, apart := false, narrowed := true }
def BookEntriesUptoSaid : Prop := bookEntriesUptoRow.holds Try.pinned (OpenSpec.upto bookEntriesSpec)

/-- 'reedpipelaw08.BookShort', WHERE WHAT IT READS IS OF BULK AT MOST 1048576: true; the input reads as it did. -/
def bookShortUptoRow : OpenClaim := { program := "ytjkpbhjppjamnaa", sum := "912837066d71ebce09d420c9f53cacdf281f13cb340eff3a471d70970c363902", func := "reedpipe/reedpipelaw08.BookShort", spec := "bookShort", unfollowed := true, recurses := true, apart := false, narrowed := true }
def BookShortUptoSaid : Prop := bookShortUptoRow.holds Try.pinned (OpenSpec.upto bookShortSpec)

/-- 'reedpipelaw08.BookRanks', WHERE WHAT IT READS IS OF BULK AT MOST 1048576: true; the input reads as it did. -/
def bookRanksUptoRow : OpenClaim := { program := "ytjkpbhjppjamnaa", sum := "912837066d71ebce09d420c9f53cacdf281f13cb340eff3a471d70970c363902", func := "reedpipe/reedpipelaw08.BookRanks", spec := "bookRanks", unfollowed := true, recurses := true, apart := false, narrowed := true }
def BookRanksUptoSaid : Prop := bookRanksUptoRow.holds Try.pinned (OpenSpec.upto bookRanksSpec)

/-- 'reedpipelaw08.BookNames', WHERE WHAT IT READS IS OF BULK AT MOST 1048576: true; the input reads as it did. -/
def bookNamesUptoRow : OpenClaim := { program := "ytjkpbhjppjamnaa", sum := "912837066d71ebce09d420c9f53cacdf281f13cb340eff3a471d70970c363902", func := "reedpipe/reedpipelaw08.BookNames", spec := "bookNames", unfollowed := true, recurses := true, apart := false, narrowed := true }
def BookNamesUptoSaid : Prop := bookNamesUptoRow.holds Try.pinned (OpenSpec.upto bookNamesSpec)

/-- 'reedpipelaw08.BookPrefix', WHERE WHAT IT READS IS OF BULK AT MOST 1048576: true; the input reads as it did. -/
def bookPrefixUptoRow : OpenClaim := { program := "ytjkpbhjppjamnaa", sum := "912837066d71ebce09d420c9f53cacdf281f13cb340eff3a471d70970c363902", func := "reedpipe/reedpipelaw08.BookPrefix", spec := "bookPrefix", unfollowed := true, recurses := true, apart := false, narrowed := true }
def BookPrefixUptoSaid : Prop := bookPrefixUptoRow.holds Try.pinned (OpenSpec.upto bookPrefixSpec)

end Rows
end Go.Proofs.Ytjkpbhjppjamnaa
