import Derived.Test.YtmfkjilndpchbaaDfa0
namespace Go.Proofs.Ytmfkjilndpchbaa.Df
open Go Go.Ab Go.Pu
theorem dfa_ok (l:List Int):Ok (P.F5 l) fun d=>∃n m,VD d n m∧n≤6∧m≤3:=by
 unfold P.F5
 refine(eL _ (by omega) (by omega)).bind fun x1 h1=>(eL _ (by omega) (by omega)).bind fun x2 h2=>?_
 rw [show Pu.W (1+x1.2)=1+x1.2 by rw [aN]]
 refine(eL _ (by omega) (by omega)).bind fun x3 h3=>?_
 rw [bN (by omega),Option.bind_some]
 refine Ok.bind (aM (fun i (s:List Int×List Int×List (List Int))=>s.2.1.length=i∧(∀j:Int,0≤j→j<i→ -1≤el s.2.1 j)∧s.2.2.length=i∧
  ∀j:Int,0≤j→j<i→((el s.2.2 j).length:Int)=1+x2.2∧∀k,0≤k→k<1+x2.2→ -1≤el2 s.2.2 j k∧el2 s.2.2 j k<1+x1.2)
  (Q:=fun s=>(s.2.1.length:Int)=1+x1.2∧(∀j:Int,0≤j→j<1+x1.2→ -1≤el s.2.1 j)∧(s.2.2.length:Int)=1+x1.2∧
  ∀j:Int,0≤j→j<1+x1.2→((el s.2.2 j).length:Int)=1+x2.2∧∀k,0≤k→k<1+x2.2→ -1≤el2 s.2.2 j k∧el2 s.2.2 j k<1+x1.2)
  ⟨rfl,fun j a b=>by omega,rfl,fun j a b=>by omega⟩ (fun i x s hx hs=>?_) fun s hs=>?_) fun s hs=>?_
 ·obtain⟨a1,a2,a3,a4⟩:=hs
  obtain⟨-,hi⟩:=ce hx
  unfold P.F5.b0
  refine(eL _ (by omega) (by omega)).bind fun x6 h6=>?_
  rw [show Pu.W (x6.2-1)=x6.2-1 by rw [aN],bk (by simp;omega),Option.bind_some,show Pu.W (1+x2.2)=1+x2.2 by rw [aN],bN (by omega),Option.bind_some]
  refine Ok.bind (aM (fun k (s:List Int×List Int)=>s.2.length=k∧∀j:Int,0≤j→j<k→ -1≤el s.2 j∧el s.2 j<1+x1.2)
   (Q:=fun s=>(s.2.length:Int)=1+x2.2∧∀j:Int,0≤j→j<1+x2.2→ -1≤el s.2 j∧el s.2 j<1+x1.2) ⟨rfl,fun j a b=>by omega⟩ (fun k y q hy hq=>?_) fun q hq=>?_) fun q hq=>?_
  ·obtain⟨b1,b2⟩:=hq
   obtain⟨-,hk⟩:=ce hy
   unfold P.F5.b1
   rw [show Pu.W (1+x1.2)=1+x1.2 by rw [aN],show Pu.W (1+x1.2+1)=1+x1.2+1 by rw [aN]]
   refine(eL _ (by omega) (by omega)).bind fun x10 h10=>?_
   rw [show Pu.W (x10.2-1)=x10.2-1 by rw [aN],bk (by simp;omega),Option.bind_some]
   refine .some ⟨by simp [b1],fun j j0 j1=>?_⟩
   dsimp only
   rcases(by omega:j<(k:Int)∨j≥(k:Int)) with e|e
   ·rw [bg (by omega)];exact b2 j j0 e
   ·have:j=(q.2.length:Int):=by omega
    subst this
    rw [show el (q.2++ [x10.2-1]) (q.2.length:Int)=x10.2-1 from aT (by simp)]
    omega
  ·obtain⟨b1,b2⟩:=hq
   rw [ba] at b1 b2
   exact⟨by omega,fun j j0 j1=>b2 j j0 (by omega)⟩
  ·rw [bk (by simp;omega),Option.bind_some]
   refine .some ⟨by simp [a1],fun j j0 j1=>?_,by simp [a3],fun j j0 j1=>?_⟩
   ·dsimp only
    rcases(by omega:j<(i:Int)∨j≥(i:Int)) with e|e
    ·rw [bg (by omega)];exact a2 j j0 e
    ·have:j=(s.2.1.length:Int):=by omega
     subst this
     rw [show el (s.2.1++ [x6.2-1]) (s.2.1.length:Int)=x6.2-1 from aT (by simp)]
     omega
   ·dsimp only [el2]
    rcases(by omega:j<(i:Int)∨j≥(i:Int)) with e|e
    ·rw [bg (by omega)];exact a4 j j0 e
    ·have:j=(s.2.2.length:Int):=by omega
     subst this
     rw [show el (s.2.2++ [q.2]) (s.2.2.length:Int)=q.2 from aT (by simp)]
     exact hq
 ·obtain⟨a1,a2,a3,a4⟩:=hs
  rw [ba] at a1 a2 a3 a4
  exact⟨by omega,fun j j0 j1=>a2 j j0 (by omega),by omega,fun j j0 j1=>a4 j j0 (by omega)⟩
 ·obtain⟨a1,a2,a3,a4⟩:=hs
  exact .some ⟨1+x1.2,1+x2.2,⟨by omega,by omega,by omega,by omega,⟨a3,fun i i0 i1=>(a4 i i0 i1).1⟩,a1,h3.1,h3.2,a2,fun i k i0 i1 k0 k1=>(a4 i i0 i1).2 k k0 k1⟩,by omega,by omega⟩
end Go.Proofs.Ytmfkjilndpchbaa.Df
