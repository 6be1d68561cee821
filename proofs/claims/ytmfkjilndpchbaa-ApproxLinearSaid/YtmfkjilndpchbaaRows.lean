/-
  No cell of these rows narrows 'for every input' (looked for: loops, veiled, ifaces, maps, wideKeys, modest, calm, conditions, laid).
  DERIVED. THE GIVEN ROWS OF THIS SEAT. 3 by the template 'for every input the law returns true; each argument reads behind the call as it read before'; 0 by the template 'total and deterministic' (their statements: YtmfkjilndpchbaaTotals.lean).
  GIVEN WITH THE SEED: the statements are not yours to turn. If you find one false, say at which input.
  Laid BY PROGRAM, IN A SANDBOX (cutbox-rows.mjs): the forced cells as the released guide's own fill.sh prints them over the translation 3f2b7336548ea255… (all of the seat's roots in one cut). By AI agents, Wed Nov 11 2026. No macro, syntax, notation, axiom, sorry.
-/
import Derived.Test.YtmfkjilndpchbaaChecked
import GoSem.Claim
import GoSem.ClaimJoined
import GoSem.ClaimMapViews
import Derived.JoinedTies
import Derived.KernelRfl
namespace Go.Proofs.Ytmfkjilndpchbaa
/- THE CELL 'sum', in the pinned program and in every row, IS THE sha256 OF THE DUMP (.gsa) THAT YtmfkjilndpchbaaProg.lean LOADS. Nothing in Lean hashes anything: it is a label: what it is worth is what the hold of that sum in a sandbox is worth. -/
noncomputable def Try.pinned : Pinned := { name := "ytmfkjilndpchbaa", sum := "3f2b7336548ea255489158ca1566fdd8e7dc4939093e55c824b92b150ede0308", checked := Try.checked }
namespace Rows
def none {H : Type} : Left H := { results := [], args := [] }

/-- 'parlkeep5.ApproxHolds': WHATEVER THE INPUT: true; the input reads as it did. -/
def approxHoldsSpec : ChangeSpec := { name := "approxHolds", fn := fun _ => fun
  | [d1, d2] => { results := [.lit (.bool true)], args := [d1, d2] }
  | _ => none }
def approxHoldsRow : OpenClaim := { program := "ytmfkjilndpchbaa", sum := "3f2b7336548ea255489158ca1566fdd8e7dc4939093e55c824b92b150ede0308", func := "parlance/parlkeep5.ApproxHolds", spec := "approxHolds", unfollowed := true, recurses := true, plainKeys := false, apart := false }
def ApproxHoldsSaid : Prop := approxHoldsRow.holds Try.pinned (OpenSpec.ofChange approxHoldsSpec)

/-- ITS FALSE NEIGHBOUR: 'it returns false'. Refute it at one input. -/
def approxHoldsWrong : ChangeSpec := { name := "approxHolds", fn := fun _ => fun
  | [d1, d2] => { results := [.lit (.bool false)], args := [d1, d2] }
  | _ => none }
def ApproxHoldsWrongFalsely : Prop := approxHoldsRow.holds Try.pinned (OpenSpec.ofChange approxHoldsWrong)

/-- 'parlkeep5.ApproxLinear': WHATEVER THE INPUT: true; the input reads as it did. -/
def approxLinearSpec : ChangeSpec := { name := "approxLinear", fn := fun _ => fun
  | [d] => { results := [.lit (.bool true)], args := [d] }
  | _ => none }
def approxLinearRow : OpenClaim := { program := "ytmfkjilndpchbaa", sum := "3f2b7336548ea255489158ca1566fdd8e7dc4939093e55c824b92b150ede0308", func := "parlance/parlkeep5.ApproxLinear", spec := "approxLinear", unfollowed := true, recurses := true, plainKeys := false, apart := false }
def ApproxLinearSaid : Prop := approxLinearRow.holds Try.pinned (OpenSpec.ofChange approxLinearSpec)

/-- ITS FALSE NEIGHBOUR: 'it returns false'. Refute it at one input. -/
def approxLinearWrong : ChangeSpec := { name := "approxLinear", fn := fun _ => fun
  | [d] => { results := [.lit (.bool false)], args := [d] }
  | _ => none }
def ApproxLinearWrongFalsely : Prop := approxLinearRow.holds Try.pinned (OpenSpec.ofChange approxLinearWrong)

/-- 'parlkeep5.ApproxExact': WHATEVER THE INPUT: true; the input reads as it did. -/
def approxExactSpec : ChangeSpec := { name := "approxExact", fn := fun _ => fun
  | [d1, d2] => { results := [.lit (.bool true)], args := [d1, d2] }
  | _ => none }
def approxExactRow : OpenClaim := { program := "ytmfkjilndpchbaa", sum := "3f2b7336548ea255489158ca1566fdd8e7dc4939093e55c824b92b150ede0308", func := "parlance/parlkeep5.ApproxExact", spec := "approxExact", unfollowed := true, recurses := true, plainKeys := false, apart := false }
def ApproxExactSaid : Prop := approxExactRow.holds Try.pinned (OpenSpec.ofChange approxExactSpec)

/-- ITS FALSE NEIGHBOUR: 'it returns false'. Refute it at one input. -/
def approxExactWrong : ChangeSpec := { name := "approxExact", fn := fun _ => fun
  | [d1, d2] => { results := [.lit (.bool false)], args := [d1, d2] }
  | _ => none }
def ApproxExactWrongFalsely : Prop := approxExactRow.holds Try.pinned (OpenSpec.ofChange approxExactWrong)

/- THE SECOND FORM. 'bulk': how many values and letters a reading holds, each counted each time it is reached (what is shared counts as often as it is met; a slice's spare places count too). A statement '..UptoSaid' is the law's where the arguments, and the package variables that the reading takes, are together of bulk at most 1048576: NARROWER than '..Said'. Prove '..Said' where nothing that the law and all that it calls make is longer than what came in: it says more and counts as full. Else prove '..UptoSaid'. A law counts once. -/
mutual
def uptoBulk {H : Type} : DataW H → Nat
  | .lit (.string bytes) => bytes.length + 1
  | .lit _ => 1
  | .nil => 1
  | .ptr d => uptoBulk d + 1
  | .slice elems spare => uptoBulkAll elems + uptoBulkAll spare + 1
  | .agg parts => uptoBulkAll parts + 1
  | .iface _ d => uptoBulk d + 1
  | .map entries => uptoBulkEntries entries + 1
  | .held _ => 1
def uptoBulkAll {H : Type} : List (DataW H) → Nat
  | [] => 0
  | d :: r => uptoBulk d + uptoBulkAll r
def uptoBulkEntries {H : Type} : List (Lit × DataW H) → Nat
  | [] => 0
  | x :: r => uptoBulkEntry x + uptoBulkEntries r
def uptoBulkEntry {H : Type} : Lit × DataW H → Nat
  | (.string bytes, d) => bytes.length + uptoBulk d + 1
  | (_, d) => uptoBulk d + 1
 end
def uptoSmall : (H : Type) → List (DataW H) → Bool := fun _ ds => decide (uptoBulkAll ds ≤ 1048576)
def OpenSpec.upto (s : _root_.Go.ChangeSpec) : _root_.Go.OpenSpec := { _root_.Go.OpenSpec.ofChange s with cond := some uptoSmall }

/-- 'parlkeep5.ApproxHolds', WHERE WHAT IT READS IS OF BULK AT MOST 1048576: true; the input reads as it did. -/
def approxHoldsUptoRow : OpenClaim := { program := "ytmfkjilndpchbaa", sum := "3f2b7336548ea255489158ca1566fdd8e7dc4939093e55c824b92b150ede0308", func := "parlance/parlkeep5.ApproxHolds", spec := "approxHolds", unfollowed := true, recurses := true, plainKeys := false, apart := false, narrowed := true }
def ApproxHoldsUptoSaid : Prop := approxHoldsUptoRow.holds Try.pinned (OpenSpec.upto approxHoldsSpec)

/-- 'parlkeep5.ApproxLinear', WHERE WHAT IT READS IS OF BULK AT MOST 1048576: true; the input reads as it did. -/
def approxLinearUptoRow : OpenClaim := { program := "ytmfkjilndpchbaa", sum := "3f2b7336548ea255489158ca1566fdd8e7dc4939093e55c824b92b150ede0308", func := "parlance/parlkeep5.ApproxLinear", spec := "approxLinear", unfollowed := true, recurses := true, plainKeys := false, apart := false, narrowed := true }
def ApproxLinearUptoSaid : Prop := approxLinearUptoRow.holds Try.pinned (OpenSpec.upto approxLinearSpec)

/-- 'parlkeep5.ApproxExact', WHERE WHAT IT READS IS OF BULK AT MOST 1048576: true; the input reads as it did. -/
def approxExactUptoRow : OpenClaim := { program := "ytmfkjilndpchbaa", sum := "3f2b7336548ea255489158ca1566fdd8e7dc4939093e55c824b92b150ede0308", func := "parlance/parlkeep5.ApproxExact", spec := "approxExact", unfollowed := true, recurses := true, plainKeys := false, apart := false, narrowed := true }
def ApproxExactUptoSaid : Prop := approxExactUptoRow.holds Try.pinned (OpenSpec.upto approxExactSpec)

end Rows
end Go.Proofs.Ytmfkjilndpchbaa
