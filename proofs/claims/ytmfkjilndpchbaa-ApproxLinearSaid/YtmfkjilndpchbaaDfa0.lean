import Derived.Test.YtmfkjilndpchbaaP
import Derived.Test.YtmfkjilndpchbaaWp
namespace Go.Proofs.Ytmfkjilndpchbaa.Df
open Go Go.Ab Go.Pu
theorem fy {x n:Int}(h1:1≤n)(h2:n≤1000000):Ok (P.J3 x n) fun y=>0≤y∧y<n:=by
 have e:Pu.rem x n=some (x.tmod n):=by unfold Pu.rem;rw [if_neg (by omega)]
 have:=Int.tmod_lt_of_pos x (by omega:0<n)
 have h3: -n<x.tmod n:=by
  have:=Int.tmod_lt_of_pos (-x) (by omega:0<n)
  rw [Int.neg_tmod] at this;omega
 unfold P.J3
 rw [e,Option.bind_some]
 split
 ·rw [aN];exact .some (by omega)
 ·exact .some (by omega)
theorem eL (s:Ty.K3){n:Int}(h1:1≤n)(h2:n≤1000000):Ok (P.D7 s n) fun r=>0≤r.2∧r.2<n:=by
 unfold P.D7
 refine .ite (fun _=>.some ⟨by dsimp only;omega,by dsimp only;omega⟩) fun h=>?_
 rw [aG (by omega) (by omega),Option.bind_some,cZ (by omega) (by omega) (by omega),Option.bind_some]
 exact(fy h1 h2).bind fun y hy=>.some hy
structure VD (d:Ty.J5)(n m:Int):Prop where
 n1:1≤n
 n2:n≤200
 m1:1≤m
 m2:m≤16
 dim:Dim d.Next n m
 acc:(d.Accept.length:Int)=n
 s0:0≤d.Start
 s1:d.Start<n
 a1:∀i,0≤i→i<n→ -1≤el d.Accept i
 t1:∀i k,0≤i→i<n→0≤k→k<m→ -1≤el2 d.Next i k∧el2 d.Next i k<n
theorem check_ok {d:Ty.J5}{n m:Int}(h:VD d n m):P.D8 d=some 0:=by
 refine Ok.eq ?_
 have hl:=h.dim.1
 have:=h.n1;have:=h.n2;have:=h.m1;have:=h.m2;have h0:=h.dim.2 0 (by omega) (by omega);have ha:=h.acc;have hs0:=h.s0;have hs1:=h.s1
 unfold P.D8
 rw [if_neg (by omega)]
 rw [if_neg (by simp only [Bool.or_eq_true,decide_eq_true_eq];omega),aG (by omega) (by omega),Option.bind_some,if_neg (by omega)]
 refine Ok.bind (cG (fun _ _=>True) (Q:=fun r=>r= .out ()) trivial (fun i x s hx _=>?_) fun _ _=>rfl) fun r hr=>?_
 ·have hi:=(List.getElem?_eq_some_iff.1 hx).1
  have hd:=h.dim.2 i (by omega) (by omega)
  rw [aT hx] at hd
  unfold P.D8.b0
  rw [if_neg (by simp only [Bool.or_eq_true,decide_eq_true_eq];omega)]
  exact .some trivial
 subst hr
 show Ok (if _ then _ else _) _
 rw [if_neg (by simp only [Bool.or_eq_true,decide_eq_true_eq];omega)]
 refine Ok.bind (cG (fun _ _=>True) (Q:=fun r=>r= .out ()) trivial (fun i x s hx _=>?_) fun _ _=>rfl) fun r hr=>?_
 ·have hi:=(List.getElem?_eq_some_iff.1 hx).1
  unfold P.D8.b1
  have ha1:=h.a1 i (by omega) (by omega)
  rw [aG (by omega) (by omega),Option.bind_some,if_neg (by omega)]
  refine Ok.bind (cG (fun _ _=>True) (Q:=fun r=>r= .out ()) trivial (fun k y s hy _=>?_) fun _ _=>rfl) fun r hr=>?_
  ·have hk:=(List.getElem?_eq_some_iff.1 hy).1
   have hd:=h.dim.2 i (by omega) (by omega)
   rw [aT hx] at hd
   have ht:=h.t1 i k (by omega) (by omega) (by omega) (by omega)
   rw [el2,aT hx,aT hy] at ht
   unfold P.D8.b2
   rw [if_neg (by simp only [Bool.or_eq_true,decide_eq_true_eq];omega)]
   exact .some trivial
  subst hr
  exact .some trivial
 subst hr
 exact .some rfl
def Wd (w:List Int)(m:Int):Prop:=∀j:Int,0≤j→j<w.length→0≤el w j∧el w j<m
end Go.Proofs.Ytmfkjilndpchbaa.Df
