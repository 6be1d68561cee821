/- The program's struct types and their shapes, printed by wip/tools/tys.py. -/
import Derived.Test.YtmlnknngpdnepaaSl9
namespace Go.Ab
open Go
structure Ty.api_Dfa where
  Start : Int
  Accept : (List Int)
  Next : (List (List Int))
def Sh.api_Dfa : Sh Ty.api_Dfa where
  sz := 3
  rd := fun Z cs x => ∃ w1 w2, cs = [.int .i64 x.Start, w1, w2] ∧ RdS Sh.int Z w1 x.Accept ∧ RdS (Sh.sl Sh.int) Z w2 x.Next
  ow := fun Z _ cs x => ∃ w1 w2, cs = [.int .i64 x.Start, w1, w2] ∧ RdS Sh.int Z w1 x.Accept ∧ RdS (Sh.sl Sh.int) Z w2 x.Next
  rd_mono := fun hz ⟨w1, w2, e, h0, h1⟩ => ⟨w1, w2, e, h0.mono hz, h1.mono hz⟩
  ow_mono := fun hz _ ⟨w1, w2, e, h0, h1⟩ => ⟨w1, w2, e, h0.mono hz, h1.mono hz⟩
  ow_rd := fun hz _ ⟨w1, w2, e, h0, h1⟩ => ⟨w1, w2, e, h0.mono hz, h1.mono hz⟩
  len := fun ⟨w1, w2, e, h0, h1⟩ => by subst e; rfl
  one := fun ⟨w1, w2, e, h0, h1⟩ => by subst e; simp [h0.one.2, h1.one.2]
structure Ty.parlmake_stream where
  l : (List Int)
def Sh.parlmake_stream : Sh Ty.parlmake_stream where
  sz := 1
  rd := fun Z cs x => ∃ w1, cs = [w1] ∧ RdS Sh.int Z w1 x.l
  ow := fun Z _ cs x => ∃ w1, cs = [w1] ∧ RdS Sh.int Z w1 x.l
  rd_mono := fun hz ⟨w1, e, h0⟩ => ⟨w1, e, h0.mono hz⟩
  ow_mono := fun hz _ ⟨w1, e, h0⟩ => ⟨w1, e, h0.mono hz⟩
  ow_rd := fun hz _ ⟨w1, e, h0⟩ => ⟨w1, e, h0.mono hz⟩
  len := fun ⟨w1, e, h0⟩ => by subst e; rfl
  one := fun ⟨w1, e, h0⟩ => by subst e; simp [h0.one.2]
structure Ty.teach_Teacher where
  d : Ty.api_Dfa
  members : Int
  equal : Int
def Sh.teach_Teacher : Sh Ty.teach_Teacher where
  sz := 5
  rd := fun Z cs x => ∃ w1 w2, cs = [.int .i64 x.d.Start, w1, w2, .int .i64 x.members, .int .i64 x.equal] ∧ RdS Sh.int Z w1 x.d.Accept ∧ RdS (Sh.sl Sh.int) Z w2 x.d.Next
  ow := fun Z _ cs x => ∃ w1 w2, cs = [.int .i64 x.d.Start, w1, w2, .int .i64 x.members, .int .i64 x.equal] ∧ RdS Sh.int Z w1 x.d.Accept ∧ RdS (Sh.sl Sh.int) Z w2 x.d.Next
  rd_mono := fun hz ⟨w1, w2, e, h0, h1⟩ => ⟨w1, w2, e, h0.mono hz, h1.mono hz⟩
  ow_mono := fun hz _ ⟨w1, w2, e, h0, h1⟩ => ⟨w1, w2, e, h0.mono hz, h1.mono hz⟩
  ow_rd := fun hz _ ⟨w1, w2, e, h0, h1⟩ => ⟨w1, w2, e, h0.mono hz, h1.mono hz⟩
  len := fun ⟨w1, w2, e, h0, h1⟩ => by subst e; rfl
  one := fun ⟨w1, w2, e, h0, h1⟩ => by subst e; simp [h0.one.2, h1.one.2]
structure Ty.mini_full where
  accept : (List Int)
  next_ : (List (List Int))
  prev : (List (List (List Int)))
def Sh.mini_full : Sh Ty.mini_full where
  sz := 3
  rd := fun Z cs x => ∃ w1 w2 w3, cs = [w1, w2, w3] ∧ RdS Sh.int Z w1 x.accept ∧ RdS (Sh.sl Sh.int) Z w2 x.next_ ∧ RdS (Sh.sl (Sh.sl Sh.int)) Z w3 x.prev
  ow := fun Z _ cs x => ∃ w1 w2 w3, cs = [w1, w2, w3] ∧ RdS Sh.int Z w1 x.accept ∧ RdS (Sh.sl Sh.int) Z w2 x.next_ ∧ RdS (Sh.sl (Sh.sl Sh.int)) Z w3 x.prev
  rd_mono := fun hz ⟨w1, w2, w3, e, h0, h1, h2⟩ => ⟨w1, w2, w3, e, h0.mono hz, h1.mono hz, h2.mono hz⟩
  ow_mono := fun hz _ ⟨w1, w2, w3, e, h0, h1, h2⟩ => ⟨w1, w2, w3, e, h0.mono hz, h1.mono hz, h2.mono hz⟩
  ow_rd := fun hz _ ⟨w1, w2, w3, e, h0, h1, h2⟩ => ⟨w1, w2, w3, e, h0.mono hz, h1.mono hz, h2.mono hz⟩
  len := fun ⟨w1, w2, w3, e, h0, h1, h2⟩ => by subst e; rfl
  one := fun ⟨w1, w2, w3, e, h0, h1, h2⟩ => by subst e; simp [h0.one.2, h1.one.2, h2.one.2]
structure Ty.mini_parts where
  of_ : (List Int)
  blocks : (List (List Int))
def Sh.mini_parts : Sh Ty.mini_parts where
  sz := 2
  rd := fun Z cs x => ∃ w1 w2, cs = [w1, w2] ∧ RdS Sh.int Z w1 x.of_ ∧ RdS (Sh.sl Sh.int) Z w2 x.blocks
  ow := fun Z _ cs x => ∃ w1 w2, cs = [w1, w2] ∧ RdS Sh.int Z w1 x.of_ ∧ RdS (Sh.sl Sh.int) Z w2 x.blocks
  rd_mono := fun hz ⟨w1, w2, e, h0, h1⟩ => ⟨w1, w2, e, h0.mono hz, h1.mono hz⟩
  ow_mono := fun hz _ ⟨w1, w2, e, h0, h1⟩ => ⟨w1, w2, e, h0.mono hz, h1.mono hz⟩
  ow_rd := fun hz _ ⟨w1, w2, e, h0, h1⟩ => ⟨w1, w2, e, h0.mono hz, h1.mono hz⟩
  len := fun ⟨w1, w2, e, h0, h1⟩ => by subst e; rfl
  one := fun ⟨w1, w2, e, h0, h1⟩ => by subst e; simp [h0.one.2, h1.one.2]
structure Ty.mini_task where
  block : Int
  by_ : Int
def Sh.mini_task : Sh Ty.mini_task := Sh.flat (fun x => [.int .i64 x.block, .int .i64 x.by_]) 2 (fun _ => rfl) (fun _ => rfl)
theorem q_mini_task (a0 b0 : Int) (a1 b1 : Int) : veq false (.struct [(0, .int), (1, .int)]) (.agg #[.int .i64 a0, .int .i64 a1]) (.agg #[.int .i64 b0, .int .i64 b1]) = some (.bool ((a0 == b0) && (a1 == b1))) := by
  simp only [veq, aEq, eqFs, eqS, List.getElem?_cons_zero, List.getElem?_cons_succ, if_true]
  cases h0 : (a0 == b0) <;> cases h1 : (a1 == b1) <;> simp_all
structure Ty.teach_pair where
  a : Int
  b : Int
  from_ : Int
  by_ : Int
def Sh.teach_pair : Sh Ty.teach_pair := Sh.flat (fun x => [.int .i64 x.a, .int .i64 x.b, .int .i64 x.from_, .int .i64 x.by_]) 4 (fun _ => rfl) (fun _ => rfl)
end Go.Ab
