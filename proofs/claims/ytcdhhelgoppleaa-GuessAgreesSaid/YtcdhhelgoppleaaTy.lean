/- The program's struct types and their shapes, printed by wip/tools/tys.py. -/
import Derived.Test.YtcdhhelgoppleaaSl9
namespace Go.Ab
open Go
structure Ty.api_Dfa where
  Start : Int
  Accept : (List Int)
  Next : (List (List Int))
def Sh.api_Dfa : Sh Ty.api_Dfa where
  sz := 3
  rd := fun Z cs x => ∃ w1 w2, cs = [.int .i64 x.Start, w1, w2] ∧ RdS Sh.int Z w1 x.Accept ∧ RdS (Sh.sl Sh.int) Z w2 x.Next
  ow := fun Z _ cs x => ∃ w1 w2, cs = [.int .i64 x.Start, w1, w2] ∧ RdS Sh.int Z w1 x.Accept ∧ RdS (Sh.sl Sh.int) Z w2 x.Next
  rd_mono := fun hz ⟨w1, w2, e, h0, h1⟩ => ⟨w1, w2, e, h0.mono hz, h1.mono hz⟩
  ow_mono := fun hz _ ⟨w1, w2, e, h0, h1⟩ => ⟨w1, w2, e, h0.mono hz, h1.mono hz⟩
  ow_rd := fun hz _ ⟨w1, w2, e, h0, h1⟩ => ⟨w1, w2, e, h0.mono hz, h1.mono hz⟩
  len := fun ⟨w1, w2, e, h0, h1⟩ => by subst e; rfl
  one := fun ⟨w1, w2, e, h0, h1⟩ => by subst e; simp [h0.one.2, h1.one.2]
structure Ty.api_Sym where
  Term : Bool
  N : Int
def Sh.api_Sym : Sh Ty.api_Sym := Sh.flat (fun x => [.bool x.Term, .int .i64 x.N]) 2 (fun _ => rfl) (fun _ => rfl)
structure Ty.api_Rule where
  Left : Int
  Right : (List Ty.api_Sym)
def Sh.api_Rule : Sh Ty.api_Rule where
  sz := 2
  rd := fun Z cs x => ∃ w1, cs = [.int .i64 x.Left, w1] ∧ RdS Sh.api_Sym Z w1 x.Right
  ow := fun Z _ cs x => ∃ w1, cs = [.int .i64 x.Left, w1] ∧ RdS Sh.api_Sym Z w1 x.Right
  rd_mono := fun hz ⟨w1, e, h0⟩ => ⟨w1, e, h0.mono hz⟩
  ow_mono := fun hz _ ⟨w1, e, h0⟩ => ⟨w1, e, h0.mono hz⟩
  ow_rd := fun hz _ ⟨w1, e, h0⟩ => ⟨w1, e, h0.mono hz⟩
  len := fun ⟨w1, e, h0⟩ => by subst e; rfl
  one := fun ⟨w1, e, h0⟩ => by subst e; simp [h0.one.2]
theorem Sh.api_Rule_op {Z : PH} {cs : List Value} {x : Ty.api_Rule} (h : Sh.api_Rule.rd Z cs x) : ∃ w1, cs = [.int .i64 x.Left, w1] ∧ RdS Sh.api_Sym Z w1 x.Right := h
theorem Sh.api_Rule_cl {Z : PH} {x : Ty.api_Rule} {w1 : Value} (h0 : RdS Sh.api_Sym Z w1 x.Right) : Sh.api_Rule.rd Z [.int .i64 x.Left, w1] x := ⟨w1, rfl, h0⟩
structure Ty.api_Grammar where
  Terms : Int
  Nons : Int
  Start : Int
  Rules : (List Ty.api_Rule)
def Sh.api_Grammar : Sh Ty.api_Grammar where
  sz := 4
  rd := fun Z cs x => ∃ w1, cs = [.int .i64 x.Terms, .int .i64 x.Nons, .int .i64 x.Start, w1] ∧ RdS Sh.api_Rule Z w1 x.Rules
  ow := fun Z _ cs x => ∃ w1, cs = [.int .i64 x.Terms, .int .i64 x.Nons, .int .i64 x.Start, w1] ∧ RdS Sh.api_Rule Z w1 x.Rules
  rd_mono := fun hz ⟨w1, e, h0⟩ => ⟨w1, e, h0.mono hz⟩
  ow_mono := fun hz _ ⟨w1, e, h0⟩ => ⟨w1, e, h0.mono hz⟩
  ow_rd := fun hz _ ⟨w1, e, h0⟩ => ⟨w1, e, h0.mono hz⟩
  len := fun ⟨w1, e, h0⟩ => by subst e; rfl
  one := fun ⟨w1, e, h0⟩ => by subst e; simp [h0.one.2]
structure Ty.parlmake_stream where
  l : (List Int)
def Sh.parlmake_stream : Sh Ty.parlmake_stream where
  sz := 1
  rd := fun Z cs x => ∃ w1, cs = [w1] ∧ RdS Sh.int Z w1 x.l
  ow := fun Z _ cs x => ∃ w1, cs = [w1] ∧ RdS Sh.int Z w1 x.l
  rd_mono := fun hz ⟨w1, e, h0⟩ => ⟨w1, e, h0.mono hz⟩
  ow_mono := fun hz _ ⟨w1, e, h0⟩ => ⟨w1, e, h0.mono hz⟩
  ow_rd := fun hz _ ⟨w1, e, h0⟩ => ⟨w1, e, h0.mono hz⟩
  len := fun ⟨w1, e, h0⟩ => by subst e; rfl
  one := fun ⟨w1, e, h0⟩ => by subst e; simp [h0.one.2]
structure Ty.mean_ends where
  g : Ty.api_Grammar
  w : (List Int)
  of_ : (List (List Int))
def Sh.mean_ends : Sh Ty.mean_ends where
  sz := 6
  rd := fun Z cs x => ∃ w1 w2 w3, cs = [.int .i64 x.g.Terms, .int .i64 x.g.Nons, .int .i64 x.g.Start, w1, w2, w3] ∧ RdS Sh.api_Rule Z w1 x.g.Rules ∧ RdS Sh.int Z w2 x.w ∧ RdS (Sh.sl (Sh.ik .u32)) Z w3 x.of_
  ow := fun Z _ cs x => ∃ w1 w2 w3, cs = [.int .i64 x.g.Terms, .int .i64 x.g.Nons, .int .i64 x.g.Start, w1, w2, w3] ∧ RdS Sh.api_Rule Z w1 x.g.Rules ∧ RdS Sh.int Z w2 x.w ∧ RdS (Sh.sl (Sh.ik .u32)) Z w3 x.of_
  rd_mono := fun hz ⟨w1, w2, w3, e, h0, h1, h2⟩ => ⟨w1, w2, w3, e, h0.mono hz, h1.mono hz, h2.mono hz⟩
  ow_mono := fun hz _ ⟨w1, w2, w3, e, h0, h1, h2⟩ => ⟨w1, w2, w3, e, h0.mono hz, h1.mono hz, h2.mono hz⟩
  ow_rd := fun hz _ ⟨w1, w2, w3, e, h0, h1, h2⟩ => ⟨w1, w2, w3, e, h0.mono hz, h1.mono hz, h2.mono hz⟩
  len := fun ⟨w1, w2, w3, e, h0, h1, h2⟩ => by subst e; rfl
  one := fun ⟨w1, w2, w3, e, h0, h1, h2⟩ => by subst e; simp [h0.one.2, h1.one.2, h2.one.2]
end Go.Ab
