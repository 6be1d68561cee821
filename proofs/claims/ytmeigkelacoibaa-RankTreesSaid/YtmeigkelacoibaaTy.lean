import Derived.Test.YtmeigkelacoibaaSl9
namespace Go.Ab
open Go
structure Ty.D1 where
 Term : Bool
 N : Int
def Sh.D1 : Sh Ty.D1 := Sh.flat (fun x => [.bool x.Term, .int .i64 x.N]) 2 (fun _ => rfl) (fun _ => rfl)
theorem q_api_Sym (a0 b0 : Bool) (a1 b1 : Int) : veq false (.struct [(0, .bool), (1, .int)]) (.agg #[.bool a0, .int .i64 a1]) (.agg #[.bool b0, .int .i64 b1]) = some (.bool ((a0 == b0) && (a1 == b1))) := by
 simp only [veq, aEq, eqFs, eqS, List.getElem?_cons_zero, List.getElem?_cons_succ, if_true]
 cases h0 : (a0 == b0) <;> cases h1 : (a1 == b1) <;> simp_all
theorem q_napi_Sym (a0 b0 : Bool) (a1 b1 : Int) : veq true (.struct [(0, .bool), (1, .int)]) (.agg #[.bool a0, .int .i64 a1]) (.agg #[.bool b0, .int .i64 b1]) = some (.bool !((a0 == b0) && (a1 == b1))) := by
 simp only [veq, aEq, eqFs, eqS, List.getElem?_cons_zero, List.getElem?_cons_succ, if_true]
 cases h0 : (a0 == b0) <;> cases h1 : (a1 == b1) <;> simp_all
structure Ty.A6 where
 Left : Int
 Right : (List Ty.D1)
def Sh.A6 : Sh Ty.A6 where
 sz := 2
 rd := fun Z cs x => ∃ w1, cs = [.int .i64 x.Left, w1] ∧ RdS Sh.D1 Z w1 x.Right
 ow := fun Z _ cs x => ∃ w1, cs = [.int .i64 x.Left, w1] ∧ RdS Sh.D1 Z w1 x.Right
 rd_mono := fun hz ⟨w1, e, h0⟩ => ⟨w1, e, h0.mono hz⟩
 ow_mono := fun hz _ ⟨w1, e, h0⟩ => ⟨w1, e, h0.mono hz⟩
 ow_rd := fun hz _ ⟨w1, e, h0⟩ => ⟨w1, e, h0.mono hz⟩
 len := fun ⟨w1, e, h0⟩ => by subst e; rfl
 one := fun ⟨w1, e, h0⟩ => by subst e; simp [h0.one.2]
theorem Sh.G2 {Z : PH} {cs : List Value} {x : Ty.A6} (h : Sh.A6.rd Z cs x) : ∃ w1, cs = [.int .i64 x.Left, w1] ∧ RdS Sh.D1 Z w1 x.Right := h
theorem Sh.G9 {Z : PH} {x : Ty.A6} {w1 : Value} (h0 : RdS Sh.D1 Z w1 x.Right) : Sh.A6.rd Z [.int .i64 x.Left, w1] x := ⟨w1, rfl, h0⟩
structure Ty.B2 where
 Terms : Int
 Nons : Int
 Start : Int
 Rules : (List Ty.A6)
def Sh.B2 : Sh Ty.B2 where
 sz := 4
 rd := fun Z cs x => ∃ w1, cs = [.int .i64 x.Terms, .int .i64 x.Nons, .int .i64 x.Start, w1] ∧ RdS Sh.A6 Z w1 x.Rules
 ow := fun Z _ cs x => ∃ w1, cs = [.int .i64 x.Terms, .int .i64 x.Nons, .int .i64 x.Start, w1] ∧ RdS Sh.A6 Z w1 x.Rules
 rd_mono := fun hz ⟨w1, e, h0⟩ => ⟨w1, e, h0.mono hz⟩
 ow_mono := fun hz _ ⟨w1, e, h0⟩ => ⟨w1, e, h0.mono hz⟩
 ow_rd := fun hz _ ⟨w1, e, h0⟩ => ⟨w1, e, h0.mono hz⟩
 len := fun ⟨w1, e, h0⟩ => by subst e; rfl
 one := fun ⟨w1, e, h0⟩ => by subst e; simp [h0.one.2]
structure Ty.A4 where
 Rule : Int
 Term : Int
 Kids : (List Ty.A4)
inductive Rd.A4 (Z : PH) : List Value → Ty.A4 → Prop
 | nil (Rule : Int) (Term : Int) : Rd.A4 Z [.int .i64 Rule, .int .i64 Term, .slice none 0 0] ⟨Rule, Term, []⟩
 | row (Rule : Int) (Term : Int) (Kids : List Ty.A4) (b o : Nat) (us : List Value) (x : Blk) (h1 : Z b = some x) (h2 : x.cells = some us) (h3 : x.esz = some 3) (h4 : Fits o Kids.length 3 us.length) (h5 : ∀ (i : Nat) (y : Ty.A4), Kids[i]? = some y → Rd.A4 Z (chk us o 3 i) y) : Rd.A4 Z [.int .i64 Rule, .int .i64 Term, .slice (some ⟨b, o, none⟩) Kids.length Kids.length] ⟨Rule, Term, Kids⟩
theorem Rd.A4.mono {Z W : PH} (hz : Z.le W) {cs : List Value} {x : Ty.A4} (h : Rd.A4 Z cs x) : Rd.A4 W cs x := by
 induction h with
 | nil Rule Term => exact .nil _ _
 | row Rule Term Kids b o us x h1 h2 h3 h4 h5 ih => exact .row _ _ _ b o us x (hz _ _ h1) h2 h3 h4 ih
def Sh.A4 : Sh Ty.A4 where
 sz := 3
 rd := Rd.A4
 ow := fun Z _ cs x => Rd.A4 Z cs x
 rd_mono := fun hz h => Rd.A4.mono hz h
 ow_mono := fun hz _ h => Rd.A4.mono hz h
 ow_rd := fun hz _ h => Rd.A4.mono hz h
 len := fun h => by cases h <;> rfl
 one := fun h => by cases h <;> rfl
theorem Sh.G4 {Z : PH} {cs : List Value} {x : Ty.A4} (h : Sh.A4.rd Z cs x) : ∃ v1, cs = [.int .i64 x.Rule, .int .i64 x.Term, v1] ∧ RdS Sh.A4 Z v1 x.Kids := by
 have h : Rd.A4 Z cs x := h
 cases h with
 | nil Rule Term => exact ⟨_, rfl, .inl ⟨rfl, rfl⟩⟩
 | row Rule Term Kids b o us x h1 h2 h3 h4 h5 => exact ⟨_, rfl, .inr ⟨b, o, us, x, rfl, h1, h2, h3, h4, h5⟩⟩
theorem Sh.G8 {Z : PH} {x : Ty.A4} {v1 : Value} (h0 : RdS Sh.A4 Z v1 x.Kids) : Sh.A4.rd Z [.int .i64 x.Rule, .int .i64 x.Term, v1] x := by
 obtain ⟨Rule, Term, Kids⟩ := x
 rcases h0 with ⟨rfl, h⟩ | ⟨b, o, us, x, rfl, h1, h2, h3, h4, h5⟩
 ·dsimp only at h; subst h; exact Rd.A4.nil _ _
 ·exact Rd.A4.row _ _ _ b o us x h1 h2 h3 h4 h5
structure Ty.E9 where
 l : (List Int)
def Sh.E9 : Sh Ty.E9 where
 sz := 1
 rd := fun Z cs x => ∃ w1, cs = [w1] ∧ RdS Sh.int Z w1 x.l
 ow := fun Z _ cs x => ∃ w1, cs = [w1] ∧ RdS Sh.int Z w1 x.l
 rd_mono := fun hz ⟨w1, e, h0⟩ => ⟨w1, e, h0.mono hz⟩
 ow_mono := fun hz _ ⟨w1, e, h0⟩ => ⟨w1, e, h0.mono hz⟩
 ow_rd := fun hz _ ⟨w1, e, h0⟩ => ⟨w1, e, h0.mono hz⟩
 len := fun ⟨w1, e, h0⟩ => by subst e; rfl
 one := fun ⟨w1, e, h0⟩ => by subst e; simp [h0.one.2]
structure Ty.C3 where
 g : Ty.B2
 n : Int
 has_ : (List (List Bool))
 loop_ : (List (List Bool))
 known_ : (List (List Int))
 ends : (List (List (List Bool)))
 ways : (List (List (List Int)))
def Sh.C3 : Sh Ty.C3 where
 sz := 10
 rd := fun Z cs x => ∃ w1 w2 w3 w4 w5 w6, cs = [.int .i64 x.g.Terms, .int .i64 x.g.Nons, .int .i64 x.g.Start, w1, .int .i64 x.n, w2, w3, w4, w5, w6] ∧ RdS Sh.A6 Z w1 x.g.Rules ∧ RdS (Sh.sl Sh.bool) Z w2 x.has_ ∧ RdS (Sh.sl Sh.bool) Z w3 x.loop_ ∧ RdS (Sh.sl Sh.int) Z w4 x.known_ ∧ RdS (Sh.sl (Sh.sl Sh.bool)) Z w5 x.ends ∧ RdS (Sh.sl (Sh.sl Sh.int)) Z w6 x.ways
 ow := fun Z _ cs x => ∃ w1 w2 w3 w4 w5 w6, cs = [.int .i64 x.g.Terms, .int .i64 x.g.Nons, .int .i64 x.g.Start, w1, .int .i64 x.n, w2, w3, w4, w5, w6] ∧ RdS Sh.A6 Z w1 x.g.Rules ∧ RdS (Sh.sl Sh.bool) Z w2 x.has_ ∧ RdS (Sh.sl Sh.bool) Z w3 x.loop_ ∧ RdS (Sh.sl Sh.int) Z w4 x.known_ ∧ RdS (Sh.sl (Sh.sl Sh.bool)) Z w5 x.ends ∧ RdS (Sh.sl (Sh.sl Sh.int)) Z w6 x.ways
 rd_mono := fun hz ⟨w1, w2, w3, w4, w5, w6, e, h0, h1, h2, h3, h4, h5⟩ => ⟨w1, w2, w3, w4, w5, w6, e, h0.mono hz, h1.mono hz, h2.mono hz, h3.mono hz, h4.mono hz, h5.mono hz⟩
 ow_mono := fun hz _ ⟨w1, w2, w3, w4, w5, w6, e, h0, h1, h2, h3, h4, h5⟩ => ⟨w1, w2, w3, w4, w5, w6, e, h0.mono hz, h1.mono hz, h2.mono hz, h3.mono hz, h4.mono hz, h5.mono hz⟩
 ow_rd := fun hz _ ⟨w1, w2, w3, w4, w5, w6, e, h0, h1, h2, h3, h4, h5⟩ => ⟨w1, w2, w3, w4, w5, w6, e, h0.mono hz, h1.mono hz, h2.mono hz, h3.mono hz, h4.mono hz, h5.mono hz⟩
 len := fun ⟨w1, w2, w3, w4, w5, w6, e, h0, h1, h2, h3, h4, h5⟩ => by subst e; rfl
 one := fun ⟨w1, w2, w3, w4, w5, w6, e, h0, h1, h2, h3, h4, h5⟩ => by subst e; simp [h0.one.2, h1.one.2, h2.one.2, h3.one.2, h4.one.2, h5.one.2]
structure Ty.E6 where
 g : Ty.B2
 n : (List (List Int))
 many_ : (List ((Int × Int × Int) × Int))
end Go.Ab
