/- The program's struct types and their shapes, printed by wip/tools/tys.py. -/
import Derived.Test.YtbehlbabgomhfaaSl9
namespace Go.Ab
open Go
structure Ty.api_Dfa where
  Start : Int
  Accept : (List Int)
  Next : (List (List Int))
def Sh.api_Dfa : Sh Ty.api_Dfa where
  sz := 3
  rd := fun Z cs x => ∃ w1 w2, cs = [.int .i64 x.Start, w1, w2] ∧ RdS Sh.int Z w1 x.Accept ∧ RdS (Sh.sl Sh.int) Z w2 x.Next
  ow := fun Z _ cs x => ∃ w1 w2, cs = [.int .i64 x.Start, w1, w2] ∧ RdS Sh.int Z w1 x.Accept ∧ RdS (Sh.sl Sh.int) Z w2 x.Next
  rd_mono := fun hz ⟨w1, w2, e, h0, h1⟩ => ⟨w1, w2, e, h0.mono hz, h1.mono hz⟩
  ow_mono := fun hz _ ⟨w1, w2, e, h0, h1⟩ => ⟨w1, w2, e, h0.mono hz, h1.mono hz⟩
  ow_rd := fun hz _ ⟨w1, w2, e, h0, h1⟩ => ⟨w1, w2, e, h0.mono hz, h1.mono hz⟩
  len := fun ⟨w1, w2, e, h0, h1⟩ => by subst e; rfl
  one := fun ⟨w1, w2, e, h0, h1⟩ => by subst e; simp [h0.one.2, h1.one.2]
structure Ty.parlmake_stream where
  l : (List Int)
def Sh.parlmake_stream : Sh Ty.parlmake_stream where
  sz := 1
  rd := fun Z cs x => ∃ w1, cs = [w1] ∧ RdS Sh.int Z w1 x.l
  ow := fun Z _ cs x => ∃ w1, cs = [w1] ∧ RdS Sh.int Z w1 x.l
  rd_mono := fun hz ⟨w1, e, h0⟩ => ⟨w1, e, h0.mono hz⟩
  ow_mono := fun hz _ ⟨w1, e, h0⟩ => ⟨w1, e, h0.mono hz⟩
  ow_rd := fun hz _ ⟨w1, e, h0⟩ => ⟨w1, e, h0.mono hz⟩
  len := fun ⟨w1, e, h0⟩ => by subst e; rfl
  one := fun ⟨w1, e, h0⟩ => by subst e; simp [h0.one.2]
structure Ty.teach_Teacher where
  d : Ty.api_Dfa
  members : Int
  equal : Int
def Sh.teach_Teacher : Sh Ty.teach_Teacher where
  sz := 5
  rd := fun Z cs x => ∃ w1 w2, cs = [.int .i64 x.d.Start, w1, w2, .int .i64 x.members, .int .i64 x.equal] ∧ RdS Sh.int Z w1 x.d.Accept ∧ RdS (Sh.sl Sh.int) Z w2 x.d.Next
  ow := fun Z _ cs x => ∃ w1 w2, cs = [.int .i64 x.d.Start, w1, w2, .int .i64 x.members, .int .i64 x.equal] ∧ RdS Sh.int Z w1 x.d.Accept ∧ RdS (Sh.sl Sh.int) Z w2 x.d.Next
  rd_mono := fun hz ⟨w1, w2, e, h0, h1⟩ => ⟨w1, w2, e, h0.mono hz, h1.mono hz⟩
  ow_mono := fun hz _ ⟨w1, w2, e, h0, h1⟩ => ⟨w1, w2, e, h0.mono hz, h1.mono hz⟩
  ow_rd := fun hz _ ⟨w1, w2, e, h0, h1⟩ => ⟨w1, w2, e, h0.mono hz, h1.mono hz⟩
  len := fun ⟨w1, w2, e, h0, h1⟩ => by subst e; rfl
  one := fun ⟨w1, w2, e, h0, h1⟩ => by subst e; simp [h0.one.2, h1.one.2]
end Go.Ab
