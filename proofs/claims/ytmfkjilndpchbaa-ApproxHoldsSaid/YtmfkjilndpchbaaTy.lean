import Derived.Test.YtmfkjilndpchbaaSl9
namespace Go.Ab
open Go
structure Ty.F1 where
 Term:Bool
 N:Int
def Sh.F1:Sh Ty.F1:=Sh.flat (fun x=>[.bool x.Term,.int .i64 x.N]) 2 (fun _=>rfl) (fun _=>rfl)
theorem q_api_Sym (a0 b0:Bool)(a1 b1:Int):veq false (.struct [(0,.bool),(1,.int)]) (.agg #[.bool a0,.int .i64 a1]) (.agg #[.bool b0,.int .i64 b1])=some (.bool ((a0==b0)&&(a1==b1))):=by
 simp only [veq,aEq,eqFs,eqS,List.getElem?_cons_zero,List.getElem?_cons_succ,if_true]
 cases h0:(a0==b0)<;>cases h1:(a1==b1)<;>simp_all
structure Ty.D8 where
 Left:Int
 Right:(List Ty.F1)
def Sh.D8:Sh Ty.D8 where
 sz:=2
 rd:=fun Z cs x=>∃w1,cs= [.int .i64 x.Left,w1]∧RdS Sh.F1 Z w1 x.Right
 ow:=fun Z _ cs x=>∃w1,cs= [.int .i64 x.Left,w1]∧RdS Sh.F1 Z w1 x.Right
 rd_mono:=fun hz ⟨w1,e,h0⟩=>⟨w1,e,h0.mono hz⟩
 ow_mono:=fun hz _ ⟨w1,e,h0⟩=>⟨w1,e,h0.mono hz⟩
 ow_rd:=fun hz _ ⟨w1,e,h0⟩=>⟨w1,e,h0.mono hz⟩
 len:=fun⟨w1,e,h0⟩=>by subst e;rfl
 one:=fun⟨w1,e,h0⟩=>by subst e;simp [h0.one.2]
theorem Sh.L8 {Z:PH}{cs:List Value}{x:Ty.D8}(h:Sh.D8.rd Z cs x):∃w1,cs= [.int .i64 x.Left,w1]∧RdS Sh.F1 Z w1 x.Right:=h
theorem Sh.M4 {Z:PH}{x:Ty.D8}{w1:Value}(h0:RdS Sh.F1 Z w1 x.Right):Sh.D8.rd Z [.int .i64 x.Left,w1] x:=⟨w1,rfl,h0⟩
structure Ty.E5 where
 Terms:Int
 Nons:Int
 Start:Int
 Rules:(List Ty.D8)
structure Ty.K5 where
 Start:Int
 Accept:(List Int)
 Next:(List (List Int))
structure Ty.G3 where
 Rule:Int
 Term:Int
 Kids:(List Ty.G3)
inductive Rd.G3 (Z:PH):List Value→Ty.G3→Prop
 | nil (Rule:Int) (Term:Int):Rd.G3 Z [.int .i64 Rule,.int .i64 Term,.slice none 0 0] ⟨Rule,Term,[]⟩
 | row (Rule:Int) (Term:Int) (Kids:List Ty.G3) (b o:Nat) (us:List Value) (x:Blk) (h1:Z b=some x) (h2:x.cells=some us) (h3:x.esz=some 3) (h4:Fits o Kids.length 3 us.length) (h5:∀(i:Nat) (y:Ty.G3),Kids[i]? =some y→Rd.G3 Z (chk us o 3 i) y):Rd.G3 Z [.int .i64 Rule,.int .i64 Term,.slice (some ⟨b,o,none⟩) Kids.length Kids.length] ⟨Rule,Term,Kids⟩
theorem Rd.G3.mono {Z W:PH}(hz:Z.le W){cs:List Value}{x:Ty.G3}(h:Rd.G3 Z cs x):Rd.G3 W cs x:=by
 induction h with
 | nil Rule Term=>exact .nil _ _
 | row Rule Term Kids b o us x h1 h2 h3 h4 h5 ih=>exact .row _ _ _ b o us x (hz _ _ h1) h2 h3 h4 ih
def Sh.G3:Sh Ty.G3 where
 sz:=3
 rd:=Rd.G3
 ow:=fun Z _ cs x=>Rd.G3 Z cs x
 rd_mono:=fun hz h=>Rd.G3.mono hz h
 ow_mono:=fun hz _ h=>Rd.G3.mono hz h
 ow_rd:=fun hz _ h=>Rd.G3.mono hz h
 len:=fun h=>by cases h<;>rfl
 one:=fun h=>by cases h<;>rfl
theorem Sh.api_Tree_op {Z:PH}{cs:List Value}{x:Ty.G3}(h:Sh.G3.rd Z cs x):∃v1,cs= [.int .i64 x.Rule,.int .i64 x.Term,v1]∧RdS Sh.G3 Z v1 x.Kids:=by
 have h:Rd.G3 Z cs x:=h
 cases h with
 | nil Rule Term=>exact⟨_,rfl,.inl ⟨rfl,rfl⟩⟩
 | row Rule Term Kids b o us x h1 h2 h3 h4 h5=>exact⟨_,rfl,.inr ⟨b,o,us,x,rfl,h1,h2,h3,h4,h5⟩⟩
theorem Sh.api_Tree_cl {Z:PH}{x:Ty.G3}{v1:Value}(h0:RdS Sh.G3 Z v1 x.Kids):Sh.G3.rd Z [.int .i64 x.Rule,.int .i64 x.Term,v1] x:=by
 obtain⟨Rule,Term,Kids⟩:=x
 rcases h0 with⟨rfl,h⟩|⟨b,o,us,x,rfl,h1,h2,h3,h4,h5⟩
 ·dsimp only at h;subst h;exact Rd.G3.nil _ _
 ·exact Rd.G3.row _ _ _ b o us x h1 h2 h3 h4 h5
structure Ty.J5 where
 l:(List Int)
structure Ty.B6 where
 Kind:Int
 Nons:(List Int)
def Sh.B6:Sh Ty.B6 where
 sz:=2
 rd:=fun Z cs x=>∃w1,cs= [.int .i64 x.Kind,w1]∧RdS Sh.int Z w1 x.Nons
 ow:=fun Z _ cs x=>∃w1,cs= [.int .i64 x.Kind,w1]∧RdS Sh.int Z w1 x.Nons
 rd_mono:=fun hz ⟨w1,e,h0⟩=>⟨w1,e,h0.mono hz⟩
 ow_mono:=fun hz _ ⟨w1,e,h0⟩=>⟨w1,e,h0.mono hz⟩
 ow_rd:=fun hz _ ⟨w1,e,h0⟩=>⟨w1,e,h0.mono hz⟩
 len:=fun⟨w1,e,h0⟩=>by subst e;rfl
 one:=fun⟨w1,e,h0⟩=>by subst e;simp [h0.one.2]
theorem Sh.L9 {Z:PH}{cs:List Value}{x:Ty.B6}(h:Sh.B6.rd Z cs x):∃w1,cs= [.int .i64 x.Kind,w1]∧RdS Sh.int Z w1 x.Nons:=h
theorem Sh.M2 {Z:PH}{x:Ty.B6}{w1:Value}(h0:RdS Sh.int Z w1 x.Nons):Sh.B6.rd Z [.int .i64 x.Kind,w1] x:=⟨w1,rfl,h0⟩
structure Ty.D0 where
 by_:Int
 to:Int
def Sh.D0:Sh Ty.D0:=Sh.flat (fun x=>[.int .i64 x.by_,.int .i64 x.to]) 2 (fun _=>rfl) (fun _=>rfl)
structure Ty.G4 where
 g:Ty.E5
 of_:(List Ty.B6)
 next_:(List (List Ty.D0))
structure Ty.K8 where
 accept:(List Int)
 next_:(List (List Int))
 prev:(List (List (List Int)))
structure Ty.K9 where
 of_:(List Int)
 blocks:(List (List Int))
structure Ty.E8 where
 block:Int
 by_:Int
def Sh.E8:Sh Ty.E8:=Sh.flat (fun x=>[.int .i64 x.block,.int .i64 x.by_]) 2 (fun _=>rfl) (fun _=>rfl)
theorem q_mini_task (a0 b0:Int)(a1 b1:Int):veq false (.struct [(0,.int),(1,.int)]) (.agg #[.int .i64 a0,.int .i64 a1]) (.agg #[.int .i64 b0,.int .i64 b1])=some (.bool ((a0==b0)&&(a1==b1))):=by
 simp only [veq,aEq,eqFs,eqS,List.getElem?_cons_zero,List.getElem?_cons_succ,if_true]
 cases h0:(a0==b0)<;>cases h1:(a1==b1)<;>simp_all
end Go.Ab
