import Derived.Test.YtmfkjilndpchbaaSl9
namespace Go.Ab
open Go
structure Ty.F2 where
 Term:Bool
 N:Int
def Sh.F2:Sh Ty.F2:=Sh.flat (fun x=>[.bool x.Term,.int .i64 x.N]) 2 (fun _=>rfl) (fun _=>rfl)
structure Ty.E2 where
 Left:Int
 Right:(List Ty.F2)
def Sh.E2:Sh Ty.E2 where
 sz:=2
 rd:=fun Z cs x=>∃w1,cs= [.int .i64 x.Left,w1]∧RdS Sh.F2 Z w1 x.Right
 ow:=fun Z _ cs x=>∃w1,cs= [.int .i64 x.Left,w1]∧RdS Sh.F2 Z w1 x.Right
 rd_mono:=fun hz ⟨w1,e,h0⟩=>⟨w1,e,h0.mono hz⟩
 ow_mono:=fun hz _ ⟨w1,e,h0⟩=>⟨w1,e,h0.mono hz⟩
 ow_rd:=fun hz _ ⟨w1,e,h0⟩=>⟨w1,e,h0.mono hz⟩
 len:=fun⟨w1,e,h0⟩=>by subst e;rfl
 one:=fun⟨w1,e,h0⟩=>by subst e;simp [h0.one.2]
theorem Sh.K7 {Z:PH}{cs:List Value}{x:Ty.E2}(h:Sh.E2.rd Z cs x):∃w1,cs= [.int .i64 x.Left,w1]∧RdS Sh.F2 Z w1 x.Right:=h
theorem Sh.L8 {Z:PH}{x:Ty.E2}{w1:Value}(h0:RdS Sh.F2 Z w1 x.Right):Sh.E2.rd Z [.int .i64 x.Left,w1] x:=⟨w1,rfl,h0⟩
structure Ty.E8 where
 Terms:Int
 Nons:Int
 Start:Int
 Rules:(List Ty.E2)
structure Ty.J5 where
 Start:Int
 Accept:(List Int)
 Next:(List (List Int))
structure Ty.K3 where
 l:(List Int)
structure Ty.B6 where
 Kind:Int
 Nons:(List Int)
def Sh.B6:Sh Ty.B6 where
 sz:=2
 rd:=fun Z cs x=>∃w1,cs= [.int .i64 x.Kind,w1]∧RdS Sh.int Z w1 x.Nons
 ow:=fun Z _ cs x=>∃w1,cs= [.int .i64 x.Kind,w1]∧RdS Sh.int Z w1 x.Nons
 rd_mono:=fun hz ⟨w1,e,h0⟩=>⟨w1,e,h0.mono hz⟩
 ow_mono:=fun hz _ ⟨w1,e,h0⟩=>⟨w1,e,h0.mono hz⟩
 ow_rd:=fun hz _ ⟨w1,e,h0⟩=>⟨w1,e,h0.mono hz⟩
 len:=fun⟨w1,e,h0⟩=>by subst e;rfl
 one:=fun⟨w1,e,h0⟩=>by subst e;simp [h0.one.2]
theorem Sh.K9 {Z:PH}{cs:List Value}{x:Ty.B6}(h:Sh.B6.rd Z cs x):∃w1,cs= [.int .i64 x.Kind,w1]∧RdS Sh.int Z w1 x.Nons:=h
theorem Sh.K8 {Z:PH}{x:Ty.B6}{w1:Value}(h0:RdS Sh.int Z w1 x.Nons):Sh.B6.rd Z [.int .i64 x.Kind,w1] x:=⟨w1,rfl,h0⟩
structure Ty.C9 where
 by_:Int
 to:Int
def Sh.C9:Sh Ty.C9:=Sh.flat (fun x=>[.int .i64 x.by_,.int .i64 x.to]) 2 (fun _=>rfl) (fun _=>rfl)
structure Ty.G3 where
 g:Ty.E8
 of_:(List Ty.B6)
 next_:(List (List Ty.C9))
structure Ty.J4 where
 a:Int
 b:Int
 from_:Int
 by_:Int
def Sh.J4:Sh Ty.J4:=Sh.flat (fun x=>[.int .i64 x.a,.int .i64 x.b,.int .i64 x.from_,.int .i64 x.by_]) 4 (fun _=>rfl) (fun _=>rfl)
structure Ty.K4 where
 accept:(List Int)
 next_:(List (List Int))
 prev:(List (List (List Int)))
structure Ty.K5 where
 of_:(List Int)
 blocks:(List (List Int))
structure Ty.E9 where
 block:Int
 by_:Int
def Sh.E9:Sh Ty.E9:=Sh.flat (fun x=>[.int .i64 x.block,.int .i64 x.by_]) 2 (fun _=>rfl) (fun _=>rfl)
theorem q_mini_task (a0 b0:Int)(a1 b1:Int):veq false (.struct [(0,.int),(1,.int)]) (.agg #[.int .i64 a0,.int .i64 a1]) (.agg #[.int .i64 b0,.int .i64 b1])=some (.bool ((a0==b0)&&(a1==b1))):=by
 simp only [veq,aEq,eqFs,eqS,List.getElem?_cons_zero,List.getElem?_cons_succ,if_true]
 cases h0:(a0==b0)<;>cases h1:(a1==b1)<;>simp_all
end Go.Ab
