/-
  No cell of these rows narrows 'for every input' (looked for: loops, veiled, ifaces, maps, wideKeys, modest, calm, conditions, laid).
  DERIVED. THE GIVEN ROWS OF THIS SEAT. 8 by the template 'for every input the law returns true; each argument reads behind the call as it read before'; 0 by the template 'total and deterministic' (their statements: YtbehlbabgomhfaaTotals.lean).
  GIVEN WITH THE SEED: the statements are not yours to turn. If you find one false, say at which input.
  Laid BY PROGRAM, IN A SANDBOX (cutbox-rows.mjs): the forced cells as the released guide's own fill.sh prints them over the translation 46724e9f7caad0bc… (all of the seat's roots in one cut). By AI agents, Wed Nov 11 2026. No macro, syntax, notation, axiom, sorry.
-/
import Derived.Test.YtbehlbabgomhfaaChecked
import GoSem.Claim
import GoSem.ClaimJoined
import GoSem.ClaimMapViews
import Derived.JoinedTies
import Derived.KernelRfl
namespace Go.Proofs.Ytbehlbabgomhfaa
/- THE CELL 'sum', in the pinned program and in every row, IS THE sha256 OF THE DUMP (.gsa) THAT YtbehlbabgomhfaaProg.lean LOADS. Nothing in Lean hashes anything: it is a label: what it is worth is what the hold of that sum in a sandbox is worth. -/
noncomputable def Try.pinned : Pinned := { name := "ytbehlbabgomhfaa", sum := "46724e9f7caad0bcf21fbbaf1ba4cf753c19fffb4723bae3adadfb2bacc64c77", checked := Try.checked }
namespace Rows
def none {H : Type} : Left H := { results := [], args := [] }

/-- 'parlkeep5.DrawMore': WHATEVER THE INPUT: true; the input reads as it did. -/
def drawMoreSpec : ChangeSpec := { name := "drawMore", fn := fun _ => fun
  | [d1, d2, d3] => { results := [.lit (.bool true)], args := [d1, d2, d3] }
  | _ => none }
def drawMoreRow : OpenClaim := { program := "ytbehlbabgomhfaa", sum := "46724e9f7caad0bcf21fbbaf1ba4cf753c19fffb4723bae3adadfb2bacc64c77", func := "parlance/parlkeep5.DrawMore", spec := "drawMore", apart := false }
def DrawMoreSaid : Prop := drawMoreRow.holds Try.pinned (OpenSpec.ofChange drawMoreSpec)

/-- ITS FALSE NEIGHBOUR: 'it returns false'. Refute it at one input. -/
def drawMoreWrong : ChangeSpec := { name := "drawMore", fn := fun _ => fun
  | [d1, d2, d3] => { results := [.lit (.bool false)], args := [d1, d2, d3] }
  | _ => none }
def DrawMoreWrongFalsely : Prop := drawMoreRow.holds Try.pinned (OpenSpec.ofChange drawMoreWrong)

/-- 'parlkeep5.DrawFair': WHATEVER THE INPUT: true; the input reads as it did. -/
def drawFairSpec : ChangeSpec := { name := "drawFair", fn := fun _ => fun
  | [d1, d2] => { results := [.lit (.bool true)], args := [d1, d2] }
  | _ => none }
def drawFairRow : OpenClaim := { program := "ytbehlbabgomhfaa", sum := "46724e9f7caad0bcf21fbbaf1ba4cf753c19fffb4723bae3adadfb2bacc64c77", func := "parlance/parlkeep5.DrawFair", spec := "drawFair", apart := false }
def DrawFairSaid : Prop := drawFairRow.holds Try.pinned (OpenSpec.ofChange drawFairSpec)

/-- ITS FALSE NEIGHBOUR: 'it returns false'. Refute it at one input. -/
def drawFairWrong : ChangeSpec := { name := "drawFair", fn := fun _ => fun
  | [d1, d2] => { results := [.lit (.bool false)], args := [d1, d2] }
  | _ => none }
def DrawFairWrongFalsely : Prop := drawFairRow.holds Try.pinned (OpenSpec.ofChange drawFairWrong)

/-- 'parlkeep5.DrawWeighs': WHATEVER THE INPUT: true; the input reads as it did. -/
def drawWeighsSpec : ChangeSpec := { name := "drawWeighs", fn := fun _ => fun
  | [d1, d2] => { results := [.lit (.bool true)], args := [d1, d2] }
  | _ => none }
def drawWeighsRow : OpenClaim := { program := "ytbehlbabgomhfaa", sum := "46724e9f7caad0bcf21fbbaf1ba4cf753c19fffb4723bae3adadfb2bacc64c77", func := "parlance/parlkeep5.DrawWeighs", spec := "drawWeighs", apart := false }
def DrawWeighsSaid : Prop := drawWeighsRow.holds Try.pinned (OpenSpec.ofChange drawWeighsSpec)

/-- ITS FALSE NEIGHBOUR: 'it returns false'. Refute it at one input. -/
def drawWeighsWrong : ChangeSpec := { name := "drawWeighs", fn := fun _ => fun
  | [d1, d2] => { results := [.lit (.bool false)], args := [d1, d2] }
  | _ => none }
def DrawWeighsWrongFalsely : Prop := drawWeighsRow.holds Try.pinned (OpenSpec.ofChange drawWeighsWrong)

/-- 'parlkeep5.TeachKeeps': WHATEVER THE INPUT: true; the input reads as it did. -/
def teachKeepsSpec : ChangeSpec := { name := "teachKeeps", fn := fun _ => fun
  | [d1, d2] => { results := [.lit (.bool true)], args := [d1, d2] }
  | _ => none }
def teachKeepsRow : OpenClaim := { program := "ytbehlbabgomhfaa", sum := "46724e9f7caad0bcf21fbbaf1ba4cf753c19fffb4723bae3adadfb2bacc64c77", func := "parlance/parlkeep5.TeachKeeps", spec := "teachKeeps", apart := false }
def TeachKeepsSaid : Prop := teachKeepsRow.holds Try.pinned (OpenSpec.ofChange teachKeepsSpec)

/-- ITS FALSE NEIGHBOUR: 'it returns false'. Refute it at one input. -/
def teachKeepsWrong : ChangeSpec := { name := "teachKeeps", fn := fun _ => fun
  | [d1, d2] => { results := [.lit (.bool false)], args := [d1, d2] }
  | _ => none }
def TeachKeepsWrongFalsely : Prop := teachKeepsRow.holds Try.pinned (OpenSpec.ofChange teachKeepsWrong)

/-- 'parlkeep5.ShrinkLeast': WHATEVER THE INPUT: true; the input reads as it did. -/
def shrinkLeastSpec : ChangeSpec := { name := "shrinkLeast", fn := fun _ => fun
  | [d1, d2, d3] => { results := [.lit (.bool true)], args := [d1, d2, d3] }
  | _ => none }
def shrinkLeastRow : OpenClaim := { program := "ytbehlbabgomhfaa", sum := "46724e9f7caad0bcf21fbbaf1ba4cf753c19fffb4723bae3adadfb2bacc64c77", func := "parlance/parlkeep5.ShrinkLeast", spec := "shrinkLeast", unfollowed := true, recurses := true, apart := false }
def ShrinkLeastSaid : Prop := shrinkLeastRow.holds Try.pinned (OpenSpec.ofChange shrinkLeastSpec)

/-- ITS FALSE NEIGHBOUR: 'it returns false'. Refute it at one input. -/
def shrinkLeastWrong : ChangeSpec := { name := "shrinkLeast", fn := fun _ => fun
  | [d1, d2, d3] => { results := [.lit (.bool false)], args := [d1, d2, d3] }
  | _ => none }
def ShrinkLeastWrongFalsely : Prop := shrinkLeastRow.holds Try.pinned (OpenSpec.ofChange shrinkLeastWrong)

/-- 'parlkeep5.CompareOther': WHATEVER THE INPUT: true; the input reads as it did. -/
def compareOtherSpec : ChangeSpec := { name := "compareOther", fn := fun _ => fun
  | [d1, d2] => { results := [.lit (.bool true)], args := [d1, d2] }
  | _ => none }
def compareOtherRow : OpenClaim := { program := "ytbehlbabgomhfaa", sum := "46724e9f7caad0bcf21fbbaf1ba4cf753c19fffb4723bae3adadfb2bacc64c77", func := "parlance/parlkeep5.CompareOther", spec := "compareOther", apart := false }
def CompareOtherSaid : Prop := compareOtherRow.holds Try.pinned (OpenSpec.ofChange compareOtherSpec)

/-- ITS FALSE NEIGHBOUR: 'it returns false'. Refute it at one input. -/
def compareOtherWrong : ChangeSpec := { name := "compareOther", fn := fun _ => fun
  | [d1, d2] => { results := [.lit (.bool false)], args := [d1, d2] }
  | _ => none }
def CompareOtherWrongFalsely : Prop := compareOtherRow.holds Try.pinned (OpenSpec.ofChange compareOtherWrong)

/-- 'parlkeep5.ShrinkAgain': WHATEVER THE INPUT: true; the input reads as it did. -/
def shrinkAgainSpec : ChangeSpec := { name := "shrinkAgain", fn := fun _ => fun
  | [d1, d2, d3] => { results := [.lit (.bool true)], args := [d1, d2, d3] }
  | _ => none }
def shrinkAgainRow : OpenClaim := { program := "ytbehlbabgomhfaa", sum := "46724e9f7caad0bcf21fbbaf1ba4cf753c19fffb4723bae3adadfb2bacc64c77", func := "parlance/parlkeep5.ShrinkAgain", spec := "shrinkAgain", unfollowed := true, recurses := true, apart := false }
def ShrinkAgainSaid : Prop := shrinkAgainRow.holds Try.pinned (OpenSpec.ofChange shrinkAgainSpec)

/-- ITS FALSE NEIGHBOUR: 'it returns false'. Refute it at one input. -/
def shrinkAgainWrong : ChangeSpec := { name := "shrinkAgain", fn := fun _ => fun
  | [d1, d2, d3] => { results := [.lit (.bool false)], args := [d1, d2, d3] }
  | _ => none }
def ShrinkAgainWrongFalsely : Prop := shrinkAgainRow.holds Try.pinned (OpenSpec.ofChange shrinkAgainWrong)

/-- 'parlkeep5.DrawEach': WHATEVER THE INPUT: true; the input reads as it did. -/
def drawEachSpec : ChangeSpec := { name := "drawEach", fn := fun _ => fun
  | [d1, d2] => { results := [.lit (.bool true)], args := [d1, d2] }
  | _ => none }
def drawEachRow : OpenClaim := { program := "ytbehlbabgomhfaa", sum := "46724e9f7caad0bcf21fbbaf1ba4cf753c19fffb4723bae3adadfb2bacc64c77", func := "parlance/parlkeep5.DrawEach", spec := "drawEach", recurses := true, apart := false }
def DrawEachSaid : Prop := drawEachRow.holds Try.pinned (OpenSpec.ofChange drawEachSpec)

/-- ITS FALSE NEIGHBOUR: 'it returns false'. Refute it at one input. -/
def drawEachWrong : ChangeSpec := { name := "drawEach", fn := fun _ => fun
  | [d1, d2] => { results := [.lit (.bool false)], args := [d1, d2] }
  | _ => none }
def DrawEachWrongFalsely : Prop := drawEachRow.holds Try.pinned (OpenSpec.ofChange drawEachWrong)

/- THE SECOND FORM. 'bulk': how many values and letters a reading holds, each counted each time it is reached (what is shared counts as often as it is met; a slice's spare places count too). A statement '..UptoSaid' is the law's where the arguments, and the package variables that the reading takes, are together of bulk at most 1048576: NARROWER than '..Said'. Prove '..Said' where nothing that the law and all that it calls make is longer than what came in: it says more and counts as full. Else prove '..UptoSaid'. A law counts once. -/
mutual
def uptoBulk {H : Type} : DataW H → Nat
  | .lit (.string bytes) => bytes.length + 1
  | .lit _ => 1
  | .nil => 1
  | .ptr d => uptoBulk d + 1
  | .slice elems spare => uptoBulkAll elems + uptoBulkAll spare + 1
  | .agg parts => uptoBulkAll parts + 1
  | .iface _ d => uptoBulk d + 1
  | .map entries => uptoBulkEntries entries + 1
  | .held _ => 1
def uptoBulkAll {H : Type} : List (DataW H) → Nat
  | [] => 0
  | d :: r => uptoBulk d + uptoBulkAll r
def uptoBulkEntries {H : Type} : List (Lit × DataW H) → Nat
  | [] => 0
  | x :: r => uptoBulkEntry x + uptoBulkEntries r
def uptoBulkEntry {H : Type} : Lit × DataW H → Nat
  | (.string bytes, d) => bytes.length + uptoBulk d + 1
  | (_, d) => uptoBulk d + 1
 end
def uptoSmall : (H : Type) → List (DataW H) → Bool := fun _ ds => decide (uptoBulkAll ds ≤ 1048576)
def OpenSpec.upto (s : _root_.Go.ChangeSpec) : _root_.Go.OpenSpec := { _root_.Go.OpenSpec.ofChange s with cond := some uptoSmall }

/-- 'parlkeep5.DrawMore', WHERE WHAT IT READS IS OF BULK AT MOST 1048576: true; the input reads as it did. -/
def drawMoreUptoRow : OpenClaim := { program := "ytbehlbabgomhfaa", sum := "46724e9f7caad0bcf21fbbaf1ba4cf753c19fffb4723bae3adadfb2bacc64c77", func := "parlance/parlkeep5.DrawMore", spec := "drawMore", apart := false, narrowed := true }
def DrawMoreUptoSaid : Prop := drawMoreUptoRow.holds Try.pinned (OpenSpec.upto drawMoreSpec)

/-- 'parlkeep5.DrawFair', WHERE WHAT IT READS IS OF BULK AT MOST 1048576: true; the input reads as it did. -/
def drawFairUptoRow : OpenClaim := { program := "ytbehlbabgomhfaa", sum := "46724e9f7caad0bcf21fbbaf1ba4cf753c19fffb4723bae3adadfb2bacc64c77", func := "parlance/parlkeep5.DrawFair", spec := "drawFair", apart := false, narrowed := true }
def DrawFairUptoSaid : Prop := drawFairUptoRow.holds Try.pinned (OpenSpec.upto drawFairSpec)

/-- 'parlkeep5.DrawWeighs', WHERE WHAT IT READS IS OF BULK AT MOST 1048576: true; the input reads as it did. -/
def drawWeighsUptoRow : OpenClaim := { program := "ytbehlbabgomhfaa", sum := "46724e9f7caad0bcf21fbbaf1ba4cf753c19fffb4723bae3adadfb2bacc64c77", func := "parlance/parlkeep5.DrawWeighs", spec := "drawWeighs", apart := false, narrowed := true }
def DrawWeighsUptoSaid : Prop := drawWeighsUptoRow.holds Try.pinned (OpenSpec.upto drawWeighsSpec)

/-- 'parlkeep5.TeachKeeps', WHERE WHAT IT READS IS OF BULK AT MOST 1048576: true; the input reads as it did. -/
def teachKeepsUptoRow : OpenClaim := { program := "ytbehlbabgomhfaa", sum := "46724e9f7caad0bcf21fbbaf1ba4cf753c19fffb4723bae3adadfb2bacc64c77", func := "parlance/parlkeep5.TeachKeeps", spec := "teachKeeps", apart := false, narrowed := true }
def TeachKeepsUptoSaid : Prop := teachKeepsUptoRow.holds Try.pinned (OpenSpec.upto teachKeepsSpec)

/-- 'parlkeep5.ShrinkLeast', WHERE WHAT IT READS IS OF BULK AT MOST 1048576: true; the input reads as it did. -/
def shrinkLeastUptoRow : OpenClaim := { program := "ytbehlbabgomhfaa", sum := "46724e9f7caad0bcf21fbbaf1ba4cf753c19fffb4723bae3adadfb2bacc64c77", func := "parlance/parlkeep5.ShrinkLeast", spec := "shrinkLeast", unfollowed := true, recurses := true, apart := false, narrowed := true }
def ShrinkLeastUptoSaid : Prop := shrinkLeastUptoRow.holds Try.pinned (OpenSpec.upto shrinkLeastSpec)

/-- 'parlkeep5.CompareOther', WHERE WHAT IT READS IS OF BULK AT MOST 1048576: true; the input reads as it did. -/
def compareOtherUptoRow : OpenClaim := { program := "ytbehlbabgomhfaa", sum := "46724e9f7caad0bcf21fbbaf1ba4cf753c19fffb4723bae3adadfb2bacc64c77", func := "parlance/parlkeep5.CompareOther", spec := "compareOther", apart := false, narrowed := true }
def CompareOtherUptoSaid : Prop := compareOtherUptoRow.holds Try.pinned (OpenSpec.upto compareOtherSpec)

/-- 'parlkeep5.ShrinkAgain', WHERE WHAT IT READS IS OF BULK AT MOST 1048576: true; the input reads as it did. -/
def shrinkAgainUptoRow : OpenClaim := { program := "ytbehlbabgomhfaa", sum := "46724e9f7caad0bcf21fbbaf1ba4cf753c19fffb4723bae3adadfb2bacc64c77", func := "parlance/parlkeep5.ShrinkAgain", spec := "shrinkAgain", unfollowed := true, recurses := true, apart := false, narrowed := true }
def ShrinkAgainUptoSaid : Prop := shrinkAgainUptoRow.holds Try.pinned (OpenSpec.upto shrinkAgainSpec)

/-- 'parlkeep5.DrawEach', WHERE WHAT IT READS IS OF BULK AT MOST 1048576: true; the input reads as it did. -/
def drawEachUptoRow : OpenClaim := { program := "ytbehlbabgomhfaa", sum := "46724e9f7caad0bcf21fbbaf1ba4cf753c19fffb4723bae3adadfb2bacc64c77", func := "parlance/parlkeep5.DrawEach", spec := "drawEach", recurses := true, apart := false, narrowed := true }
def DrawEachUptoSaid : Prop := drawEachUptoRow.holds Try.pinned (OpenSpec.upto drawEachSpec)

end Rows
end Go.Proofs.Ytbehlbabgomhfaa
