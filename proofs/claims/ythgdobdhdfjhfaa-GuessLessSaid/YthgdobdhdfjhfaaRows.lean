/-
  No cell of these rows narrows 'for every input' (looked for: loops, veiled, ifaces, maps, wideKeys, modest, calm, conditions, laid).
  DERIVED. THE GIVEN ROWS OF THIS SEAT. 12 by the template 'for every input the law returns true; each argument reads behind the call as it read before'; 0 by the template 'total and deterministic' (their statements: YthgdobdhdfjhfaaTotals.lean).
  GIVEN WITH THE SEED: the statements are not yours to turn. If you find one false, say at which input.
  Laid BY PROGRAM, IN A SANDBOX (cutbox-rows.mjs): the forced cells as the released guide's own fill.sh prints them over the translation e55410a75399c74f… (all of the seat's roots in one cut). By AI agents, Wed Nov 11 2026. No macro, syntax, notation, axiom, sorry.
-/
import Derived.Test.YthgdobdhdfjhfaaChecked
import GoSem.Claim
import GoSem.ClaimJoined
import GoSem.ClaimMapViews
import Derived.JoinedTies
import Derived.KernelRfl
namespace Go.Proofs.Ythgdobdhdfjhfaa
/- THE CELL 'sum', in the pinned program and in every row, IS THE sha256 OF THE DUMP (.gsa) THAT YthgdobdhdfjhfaaProg.lean LOADS. Nothing in Lean hashes anything: it is a label: what it is worth is what the hold of that sum in a sandbox is worth. -/
noncomputable def Try.pinned : Pinned := { name := "ythgdobdhdfjhfaa", sum := "e55410a75399c74f7898eb1540119540da26b8800a9c9a8b3462f9ca130955b4", checked := Try.checked }
namespace Rows
def none {H : Type} : Left H := { results := [], args := [] }

/-- 'parlkeep5.ShrinkTree': WHATEVER THE INPUT: true; the input reads as it did. -/
def shrinkTreeSpec : ChangeSpec := { name := "shrinkTree", fn := fun _ => fun
  | [d1, d2, d3] => { results := [.lit (.bool true)], args := [d1, d2, d3] }
  | _ => none }
def shrinkTreeRow : OpenClaim := { program := "ythgdobdhdfjhfaa", sum := "e55410a75399c74f7898eb1540119540da26b8800a9c9a8b3462f9ca130955b4", func := "parlance/parlkeep5.ShrinkTree", spec := "shrinkTree", unfollowed := true, recurses := true, plainKeys := false, apart := false }
def ShrinkTreeSaid : Prop := shrinkTreeRow.holds Try.pinned (OpenSpec.ofChange shrinkTreeSpec)

/-- ITS FALSE NEIGHBOUR: 'it returns false'. Refute it at one input. -/
def shrinkTreeWrong : ChangeSpec := { name := "shrinkTree", fn := fun _ => fun
  | [d1, d2, d3] => { results := [.lit (.bool false)], args := [d1, d2, d3] }
  | _ => none }
def ShrinkTreeWrongFalsely : Prop := shrinkTreeRow.holds Try.pinned (OpenSpec.ofChange shrinkTreeWrong)

/-- 'parlkeep5.CompareSides': WHATEVER THE INPUT: true; the input reads as it did. -/
def compareSidesSpec : ChangeSpec := { name := "compareSides", fn := fun _ => fun
  | [d1, d2, d3] => { results := [.lit (.bool true)], args := [d1, d2, d3] }
  | _ => none }
def compareSidesRow : OpenClaim := { program := "ythgdobdhdfjhfaa", sum := "e55410a75399c74f7898eb1540119540da26b8800a9c9a8b3462f9ca130955b4", func := "parlance/parlkeep5.CompareSides", spec := "compareSides", unfollowed := true, recurses := true, plainKeys := false, apart := false }
def CompareSidesSaid : Prop := compareSidesRow.holds Try.pinned (OpenSpec.ofChange compareSidesSpec)

/-- ITS FALSE NEIGHBOUR: 'it returns false'. Refute it at one input. -/
def compareSidesWrong : ChangeSpec := { name := "compareSides", fn := fun _ => fun
  | [d1, d2, d3] => { results := [.lit (.bool false)], args := [d1, d2, d3] }
  | _ => none }
def CompareSidesWrongFalsely : Prop := compareSidesRow.holds Try.pinned (OpenSpec.ofChange compareSidesWrong)

/-- 'parlkeep5.CompareSame': WHATEVER THE INPUT: true; the input reads as it did. -/
def compareSameSpec : ChangeSpec := { name := "compareSame", fn := fun _ => fun
  | [d1, d2] => { results := [.lit (.bool true)], args := [d1, d2] }
  | _ => none }
def compareSameRow : OpenClaim := { program := "ythgdobdhdfjhfaa", sum := "e55410a75399c74f7898eb1540119540da26b8800a9c9a8b3462f9ca130955b4", func := "parlance/parlkeep5.CompareSame", spec := "compareSame", unfollowed := true, recurses := true, plainKeys := false, apart := false }
def CompareSameSaid : Prop := compareSameRow.holds Try.pinned (OpenSpec.ofChange compareSameSpec)

/-- ITS FALSE NEIGHBOUR: 'it returns false'. Refute it at one input. -/
def compareSameWrong : ChangeSpec := { name := "compareSame", fn := fun _ => fun
  | [d1, d2] => { results := [.lit (.bool false)], args := [d1, d2] }
  | _ => none }
def CompareSameWrongFalsely : Prop := compareSameRow.holds Try.pinned (OpenSpec.ofChange compareSameWrong)

/-- 'parlkeep5.LensLonger': WHATEVER THE INPUT: true; the input reads as it did. -/
def lensLongerSpec : ChangeSpec := { name := "lensLonger", fn := fun _ => fun
  | [d1, d2] => { results := [.lit (.bool true)], args := [d1, d2] }
  | _ => none }
def lensLongerRow : OpenClaim := { program := "ythgdobdhdfjhfaa", sum := "e55410a75399c74f7898eb1540119540da26b8800a9c9a8b3462f9ca130955b4", func := "parlance/parlkeep5.LensLonger", spec := "lensLonger", unfollowed := true, recurses := true, plainKeys := false, apart := false }
def LensLongerSaid : Prop := lensLongerRow.holds Try.pinned (OpenSpec.ofChange lensLongerSpec)

/-- ITS FALSE NEIGHBOUR: 'it returns false'. Refute it at one input. -/
def lensLongerWrong : ChangeSpec := { name := "lensLonger", fn := fun _ => fun
  | [d1, d2] => { results := [.lit (.bool false)], args := [d1, d2] }
  | _ => none }
def LensLongerWrongFalsely : Prop := lensLongerRow.holds Try.pinned (OpenSpec.ofChange lensLongerWrong)

/-- 'parlkeep5.LensWord': WHATEVER THE INPUT: true; the input reads as it did. -/
def lensWordSpec : ChangeSpec := { name := "lensWord", fn := fun _ => fun
  | [d1, d2] => { results := [.lit (.bool true)], args := [d1, d2] }
  | _ => none }
def lensWordRow : OpenClaim := { program := "ythgdobdhdfjhfaa", sum := "e55410a75399c74f7898eb1540119540da26b8800a9c9a8b3462f9ca130955b4", func := "parlance/parlkeep5.LensWord", spec := "lensWord", unfollowed := true, recurses := true, plainKeys := false, apart := false }
def LensWordSaid : Prop := lensWordRow.holds Try.pinned (OpenSpec.ofChange lensWordSpec)

/-- ITS FALSE NEIGHBOUR: 'it returns false'. Refute it at one input. -/
def lensWordWrong : ChangeSpec := { name := "lensWord", fn := fun _ => fun
  | [d1, d2] => { results := [.lit (.bool false)], args := [d1, d2] }
  | _ => none }
def LensWordWrongFalsely : Prop := lensWordRow.holds Try.pinned (OpenSpec.ofChange lensWordWrong)

/-- 'parlkeep5.GuessLess': WHATEVER THE INPUT: true; the input reads as it did. -/
def guessLessSpec : ChangeSpec := { name := "guessLess", fn := fun _ => fun
  | [d1, d2] => { results := [.lit (.bool true)], args := [d1, d2] }
  | _ => none }
def guessLessRow : OpenClaim := { program := "ythgdobdhdfjhfaa", sum := "e55410a75399c74f7898eb1540119540da26b8800a9c9a8b3462f9ca130955b4", func := "parlance/parlkeep5.GuessLess", spec := "guessLess", unfollowed := true, recurses := true, plainKeys := false, apart := false }
def GuessLessSaid : Prop := guessLessRow.holds Try.pinned (OpenSpec.ofChange guessLessSpec)

/-- ITS FALSE NEIGHBOUR: 'it returns false'. Refute it at one input. -/
def guessLessWrong : ChangeSpec := { name := "guessLess", fn := fun _ => fun
  | [d1, d2] => { results := [.lit (.bool false)], args := [d1, d2] }
  | _ => none }
def GuessLessWrongFalsely : Prop := guessLessRow.holds Try.pinned (OpenSpec.ofChange guessLessWrong)

/-- 'parlkeep5.CensusShort': WHATEVER THE INPUT: true; the input reads as it did. -/
def censusShortSpec : ChangeSpec := { name := "censusShort", fn := fun _ => fun
  | [d1, d2] => { results := [.lit (.bool true)], args := [d1, d2] }
  | _ => none }
def censusShortRow : OpenClaim := { program := "ythgdobdhdfjhfaa", sum := "e55410a75399c74f7898eb1540119540da26b8800a9c9a8b3462f9ca130955b4", func := "parlance/parlkeep5.CensusShort", spec := "censusShort", unfollowed := true, recurses := true, plainKeys := false, apart := false }
def CensusShortSaid : Prop := censusShortRow.holds Try.pinned (OpenSpec.ofChange censusShortSpec)

/-- ITS FALSE NEIGHBOUR: 'it returns false'. Refute it at one input. -/
def censusShortWrong : ChangeSpec := { name := "censusShort", fn := fun _ => fun
  | [d1, d2] => { results := [.lit (.bool false)], args := [d1, d2] }
  | _ => none }
def CensusShortWrongFalsely : Prop := censusShortRow.holds Try.pinned (OpenSpec.ofChange censusShortWrong)

/-- 'parlkeep5.LensTrees': WHATEVER THE INPUT: true; the input reads as it did. -/
def lensTreesSpec : ChangeSpec := { name := "lensTrees", fn := fun _ => fun
  | [d] => { results := [.lit (.bool true)], args := [d] }
  | _ => none }
def lensTreesRow : OpenClaim := { program := "ythgdobdhdfjhfaa", sum := "e55410a75399c74f7898eb1540119540da26b8800a9c9a8b3462f9ca130955b4", func := "parlance/parlkeep5.LensTrees", spec := "lensTrees", unfollowed := true, recurses := true, plainKeys := false, apart := false }
def LensTreesSaid : Prop := lensTreesRow.holds Try.pinned (OpenSpec.ofChange lensTreesSpec)

/-- ITS FALSE NEIGHBOUR: 'it returns false'. Refute it at one input. -/
def lensTreesWrong : ChangeSpec := { name := "lensTrees", fn := fun _ => fun
  | [d] => { results := [.lit (.bool false)], args := [d] }
  | _ => none }
def LensTreesWrongFalsely : Prop := lensTreesRow.holds Try.pinned (OpenSpec.ofChange lensTreesWrong)

/-- 'parlkeep5.CensusMore': WHATEVER THE INPUT: true; the input reads as it did. -/
def censusMoreSpec : ChangeSpec := { name := "censusMore", fn := fun _ => fun
  | [d1, d2, d3] => { results := [.lit (.bool true)], args := [d1, d2, d3] }
  | _ => none }
def censusMoreRow : OpenClaim := { program := "ythgdobdhdfjhfaa", sum := "e55410a75399c74f7898eb1540119540da26b8800a9c9a8b3462f9ca130955b4", func := "parlance/parlkeep5.CensusMore", spec := "censusMore", unfollowed := true, recurses := true, plainKeys := false, apart := false }
def CensusMoreSaid : Prop := censusMoreRow.holds Try.pinned (OpenSpec.ofChange censusMoreSpec)

/-- ITS FALSE NEIGHBOUR: 'it returns false'. Refute it at one input. -/
def censusMoreWrong : ChangeSpec := { name := "censusMore", fn := fun _ => fun
  | [d1, d2, d3] => { results := [.lit (.bool false)], args := [d1, d2, d3] }
  | _ => none }
def CensusMoreWrongFalsely : Prop := censusMoreRow.holds Try.pinned (OpenSpec.ofChange censusMoreWrong)

/-- 'parlkeep5.CensusLeast': WHATEVER THE INPUT: true; the input reads as it did. -/
def censusLeastSpec : ChangeSpec := { name := "censusLeast", fn := fun _ => fun
  | [d] => { results := [.lit (.bool true)], args := [d] }
  | _ => none }
def censusLeastRow : OpenClaim := { program := "ythgdobdhdfjhfaa", sum := "e55410a75399c74f7898eb1540119540da26b8800a9c9a8b3462f9ca130955b4", func := "parlance/parlkeep5.CensusLeast", spec := "censusLeast", unfollowed := true, recurses := true, plainKeys := false, apart := false }
def CensusLeastSaid : Prop := censusLeastRow.holds Try.pinned (OpenSpec.ofChange censusLeastSpec)

/-- ITS FALSE NEIGHBOUR: 'it returns false'. Refute it at one input. -/
def censusLeastWrong : ChangeSpec := { name := "censusLeast", fn := fun _ => fun
  | [d] => { results := [.lit (.bool false)], args := [d] }
  | _ => none }
def CensusLeastWrongFalsely : Prop := censusLeastRow.holds Try.pinned (OpenSpec.ofChange censusLeastWrong)

/-- 'parlkeep5.RankFirst': WHATEVER THE INPUT: true; the input reads as it did. -/
def rankFirstSpec : ChangeSpec := { name := "rankFirst", fn := fun _ => fun
  | [d1, d2, d3] => { results := [.lit (.bool true)], args := [d1, d2, d3] }
  | _ => none }
def rankFirstRow : OpenClaim := { program := "ythgdobdhdfjhfaa", sum := "e55410a75399c74f7898eb1540119540da26b8800a9c9a8b3462f9ca130955b4", func := "parlance/parlkeep5.RankFirst", spec := "rankFirst", unfollowed := true, recurses := true, plainKeys := false, apart := false }
def RankFirstSaid : Prop := rankFirstRow.holds Try.pinned (OpenSpec.ofChange rankFirstSpec)

/-- ITS FALSE NEIGHBOUR: 'it returns false'. Refute it at one input. -/
def rankFirstWrong : ChangeSpec := { name := "rankFirst", fn := fun _ => fun
  | [d1, d2, d3] => { results := [.lit (.bool false)], args := [d1, d2, d3] }
  | _ => none }
def RankFirstWrongFalsely : Prop := rankFirstRow.holds Try.pinned (OpenSpec.ofChange rankFirstWrong)

/-- 'parlkeep5.RankBack': WHATEVER THE INPUT: true; the input reads as it did. -/
def rankBackSpec : ChangeSpec := { name := "rankBack", fn := fun _ => fun
  | [d1, d2, d3] => { results := [.lit (.bool true)], args := [d1, d2, d3] }
  | _ => none }
def rankBackRow : OpenClaim := { program := "ythgdobdhdfjhfaa", sum := "e55410a75399c74f7898eb1540119540da26b8800a9c9a8b3462f9ca130955b4", func := "parlance/parlkeep5.RankBack", spec := "rankBack", unfollowed := true, recurses := true, plainKeys := false, apart := false }
def RankBackSaid : Prop := rankBackRow.holds Try.pinned (OpenSpec.ofChange rankBackSpec)

/-- ITS FALSE NEIGHBOUR: 'it returns false'. Refute it at one input. -/
def rankBackWrong : ChangeSpec := { name := "rankBack", fn := fun _ => fun
  | [d1, d2, d3] => { results := [.lit (.bool false)], args := [d1, d2, d3] }
  | _ => none }
def RankBackWrongFalsely : Prop := rankBackRow.holds Try.pinned (OpenSpec.ofChange rankBackWrong)

/- THE SECOND FORM. 'bulk': how many values and letters a reading holds, each counted each time it is reached (what is shared counts as often as it is met; a slice's spare places count too). A statement '..UptoSaid' is the law's where the arguments, and the package variables that the reading takes, are together of bulk at most 1048576: NARROWER than '..Said'. Prove '..Said' where nothing that the law and all that it calls make is longer than what came in: it says more and counts as full. Else prove '..UptoSaid'. A law counts once. -/
mutual
def uptoBulk {H : Type} : DataW H → Nat
  | .lit (.string bytes) => bytes.length + 1
  | .lit _ => 1
  | .nil => 1
  | .ptr d => uptoBulk d + 1
  | .slice elems spare => uptoBulkAll elems + uptoBulkAll spare + 1
  | .agg parts => uptoBulkAll parts + 1
  | .iface _ d => uptoBulk d + 1
  | .map entries => uptoBulkEntries entries + 1
  | .held _ => 1
def uptoBulkAll {H : Type} : List (DataW H) → Nat
  | [] => 0
  | d :: r => uptoBulk d + uptoBulkAll r
def uptoBulkEntries {H : Type} : List (Lit × DataW H) → Nat
  | [] => 0
  | x :: r => uptoBulkEntry x + uptoBulkEntries r
def uptoBulkEntry {H : Type} : Lit × DataW H → Nat
  | (.string bytes, d) => bytes.length + uptoBulk d + 1
  | (_, d) => uptoBulk d + 1
 end
def uptoSmall : (H : Type) → List (DataW H) → Bool := fun _ ds => decide (uptoBulkAll ds ≤ 1048576)
def OpenSpec.upto (s : _root_.Go.ChangeSpec) : _root_.Go.OpenSpec := { _root_.Go.OpenSpec.ofChange s with cond := some uptoSmall }

/-- 'parlkeep5.ShrinkTree', WHERE WHAT IT READS IS OF BULK AT MOST 1048576: true; the input reads as it did. -/
def shrinkTreeUptoRow : OpenClaim := { program := "ythgdobdhdfjhfaa", sum := "e55410a75399c74f7898eb1540119540da26b8800a9c9a8b3462f9ca130955b4", func := "parlance/parlkeep5.ShrinkTree", spec := "shrinkTree", unfollowed := true, recurses := true, plainKeys := false, apart := false, narrowed := true }
def ShrinkTreeUptoSaid : Prop := shrinkTreeUptoRow.holds Try.pinned (OpenSpec.upto shrinkTreeSpec)

/-- 'parlkeep5.CompareSides', WHERE WHAT IT READS IS OF BULK AT MOST 1048576: true; the input reads as it did. -/
def compareSidesUptoRow : OpenClaim := { program := "ythgdobdhdfjhfaa", sum := "e55410a75399c74f7898eb1540119540da26b8800a9c9a8b3462f9ca130955b4", func := "parlance/parlkeep5.CompareSides", spec := "compareSides", unfollowed := true, recurses := true, plainKeys := false, apart := false, narrowed := true }
def CompareSidesUptoSaid : Prop := compareSidesUptoRow.holds Try.pinned (OpenSpec.upto compareSidesSpec)

/-- 'parlkeep5.CompareSame', WHERE WHAT IT READS IS OF BULK AT MOST 1048576: true; the input reads as it did. -/
def compareSameUptoRow : OpenClaim := { program := "ythgdobdhdfjhfaa", sum := "e55410a75399c74f7898eb1540119540da26b8800a9c9a8b3462f9ca130955b4", func := "parlance/parlkeep5.CompareSame", spec := "compareSame", unfollowed := true, recurses := true, plainKeys := false, apart := false, narrowed := true }
def CompareSameUptoSaid : Prop := compareSameUptoRow.holds Try.pinned (OpenSpec.upto compareSameSpec)

/-- 'parlkeep5.LensLonger', WHERE WHAT IT READS IS OF BULK AT MOST 1048576: true; the input reads as it did. -/
def lensLongerUptoRow : OpenClaim := { program := "ythgdobdhdfjhfaa", sum := "e55410a75399c74f7898eb1540119540da26b8800a9c9a8b3462f9ca130955b4", func := "parlance/parlkeep5.LensLonger", spec := "lensLonger", unfollowed := true, recurses := true, plainKeys := false, apart := false, narrowed := true }
def LensLongerUptoSaid : Prop := lensLongerUptoRow.holds Try.pinned (OpenSpec.upto lensLongerSpec)

/-- 'parlkeep5.LensWord', WHERE WHAT IT READS IS OF BULK AT MOST 1048576: true; the input reads as it did. -/
def lensWordUptoRow : OpenClaim := { program := "ythgdobdhdfjhfaa", sum := "e55410a75399c74f7898eb1540119540da26b8800a9c9a8b3462f9ca130955b4", func := "parlance/parlkeep5.LensWord", spec := "lensWord", unfollowed := true, recurses := true, plainKeys := false, apart := false, narrowed := true }
def LensWordUptoSaid : Prop := lensWordUptoRow.holds Try.pinned (OpenSpec.upto lensWordSpec)

/-- 'parlkeep5.GuessLess', WHERE WHAT IT READS IS OF BULK AT MOST 1048576: true; the input reads as it did. -/
def guessLessUptoRow : OpenClaim := { program := "ythgdobdhdfjhfaa", sum := "e55410a75399c74f7898eb1540119540da26b8800a9c9a8b3462f9ca130955b4", func := "parlance/parlkeep5.GuessLess", spec := "guessLess", unfollowed := true, recurses := true, plainKeys := false, apart := false, narrowed := true }
def GuessLessUptoSaid : Prop := guessLessUptoRow.holds Try.pinned (OpenSpec.upto guessLessSpec)

/-- 'parlkeep5.CensusShort', WHERE WHAT IT READS IS OF BULK AT MOST 1048576: true; the input reads as it did. -/
def censusShortUptoRow : OpenClaim := { program := "ythgdobdhdfjhfaa", sum := "e55410a75399c74f7898eb1540119540da26b8800a9c9a8b3462f9ca130955b4", func := "parlance/parlkeep5.CensusShort", spec := "censusShort", unfollowed := true, recurses := true, plainKeys := false, apart := false, narrowed := true }
def CensusShortUptoSaid : Prop := censusShortUptoRow.holds Try.pinned (OpenSpec.upto censusShortSpec)

/-- 'parlkeep5.LensTrees', WHERE WHAT IT READS IS OF BULK AT MOST 1048576: true; the input reads as it did. -/
def lensTreesUptoRow : OpenClaim := { program := "ythgdobdhdfjhfaa", sum := "e55410a75399c74f7898eb1540119540da26b8800a9c9a8b3462f9ca130955b4", func := "parlance/parlkeep5.LensTrees", spec := "lensTrees", unfollowed := true, recurses := true, plainKeys := false, apart := false, narrowed := true }
def LensTreesUptoSaid : Prop := lensTreesUptoRow.holds Try.pinned (OpenSpec.upto lensTreesSpec)

/-- 'parlkeep5.CensusMore', WHERE WHAT IT READS IS OF BULK AT MOST 1048576: true; the input reads as it did. -/
def censusMoreUptoRow : OpenClaim := { program := "ythgdobdhdfjhfaa", sum := "e55410a75399c74f7898eb1540119540da26b8800a9c9a8b3462f9ca130955b4", func := "parlance/parlkeep5.CensusMore", spec := "censusMore", unfollowed := true, recurses := true, plainKeys := false, apart := false, narrowed := true }
def CensusMoreUptoSaid : Prop := censusMoreUptoRow.holds Try.pinned (OpenSpec.upto censusMoreSpec)

/-- 'parlkeep5.CensusLeast', WHERE WHAT IT READS IS OF BULK AT MOST 1048576: true; the input reads as it did. -/
def censusLeastUptoRow : OpenClaim := { program := "ythgdobdhdfjhfaa", sum := "e55410a75399c74f7898eb1540119540da26b8800a9c9a8b3462f9ca130955b4", func := "parlance/parlkeep5.CensusLeast", spec := "censusLeast", unfollowed := true, recurses := true, plainKeys := false, apart := false, narrowed := true }
def CensusLeastUptoSaid : Prop := censusLeastUptoRow.holds Try.pinned (OpenSpec.upto censusLeastSpec)

/-- 'parlkeep5.RankFirst', WHERE WHAT IT READS IS OF BULK AT MOST 1048576: true; the input reads as it did. -/
def rankFirstUptoRow : OpenClaim := { program := "ythgdobdhdfjhfaa", sum := "e55410a75399c74f7898eb1540119540da26b8800a9c9a8b3462f9ca130955b4", func := "parlance/parlkeep5.RankFirst", spec := "rankFirst", unfollowed := true, recurses := true, plainKeys := false, apart := false, narrowed := true }
def RankFirstUptoSaid : Prop := rankFirstUptoRow.holds Try.pinned (OpenSpec.upto rankFirstSpec)

/-- 'parlkeep5.RankBack', WHERE WHAT IT READS IS OF BULK AT MOST 1048576: true; the input reads as it did. -/
def rankBackUptoRow : OpenClaim := { program := "ythgdobdhdfjhfaa", sum := "e55410a75399c74f7898eb1540119540da26b8800a9c9a8b3462f9ca130955b4", func := "parlance/parlkeep5.RankBack", spec := "rankBack", unfollowed := true, recurses := true, plainKeys := false, apart := false, narrowed := true }
def RankBackUptoSaid : Prop := rankBackUptoRow.holds Try.pinned (OpenSpec.upto rankBackSpec)

end Rows
end Go.Proofs.Ythgdobdhdfjhfaa
