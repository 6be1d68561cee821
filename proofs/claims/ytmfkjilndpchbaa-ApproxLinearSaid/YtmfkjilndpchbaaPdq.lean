import Derived.Test.YtmfkjilndpchbaaP
import Derived.Test.YtmfkjilndpchbaaWp
namespace Go.Proofs.Ytmfkjilndpchbaa.Df
open Go Go.Ab Go.Pu
theorem du (a b:Int):P.D4 a b=some (decide (a<b)):=by simp [P.D4,P.G8]
def sw (xs:List Int)(i j:Int):List Int:=st (st xs i (el xs j)) j (el xs i)
theorem cg {xs:List Int}{i j:Int}(i0:0≤i)(i1:i<xs.length)(j0:0≤j)(j1:j<xs.length):(sw xs i j).Perm xs:=by
 obtain⟨i,rfl⟩:=Int.eq_ofNat_of_zero_le i0
 obtain⟨j,rfl⟩:=Int.eq_ofNat_of_zero_le j0
 have hi:i<xs.length:=by omega
 have hj:j<xs.length:=by omega
 have ei:el xs (i:Int)=xs[i]:=aT (List.getElem?_eq_getElem hi)
 have ej:el xs (j:Int)=xs[j]:=aT (List.getElem?_eq_getElem hj)
 unfold sw st
 rw [Int.toNat_natCast,Int.toNat_natCast,ei,ej]
 by_cases e:i=j
 ·subst e
  rw [List.set_set,List.set_getElem_self]
 ·rw [List.perm_iff_count]
  intro c
  rw [List.count_set (by simpa using hj),List.count_set hi,List.getElem_set_ne e]
  have h1:xs[i]=c→0<List.count c xs:=fun q=>List.count_pos_iff.2 (q▸List.getElem_mem hi)
  have h2:xs[j]=c→0<List.count c xs:=fun q=>List.count_pos_iff.2 (q▸List.getElem_mem hj)
  by_cases q1:xs[i]=c<;>by_cases q2:xs[j]=c
  ·have:=h1 q1;simp [q1,q2];omega
  ·have:=h1 q1;simp [q1,q2];omega
  ·have:=h2 q2;simp [q1,q2]
  ·simp [q1,q2]
theorem jW {xs:List Int}{i j:Int}:(sw xs i j).length=xs.length:=by simp [sw]
theorem dS {α:Type}{xs:List Int}{i j:Int}(i0:0≤i)(i1:i<xs.length)(j0:0≤j)(j1:j<xs.length){f:Int→Int→Int→Int→Option α}:
 ((ix xs j).bind fun x6=>(ix xs i).bind fun x7=>(ix xs i).bind fun x8=>(ix (st xs i x6) j).bind fun x9=>f x6 x7 x8 x9)=f (el xs j) (el xs i) (el xs i) (el (st xs i (el xs j)) j):=by
 rw [aG j0 j1,Option.bind_some,aG i0 i1,Option.bind_some,Option.bind_some,aG j0 (by rw [bj];exact j1),Option.bind_some]
theorem eA {xs:List Int}{p:Prop} [Decidable p]{i j:Int}(h:p→(0≤i∧i<xs.length)∧0≤j∧j<xs.length):Ok (if decide p=true then(ix xs i).bind fun x3=>(ix xs j).bind fun x4=>(P.D4 x3 x4).bind fun x5=>some x5 else some false) fun b=>b=true→p:=by
 refine .ite (fun q=>?_) fun q=>.some fun q=>by cases q
 have q:=of_decide_eq_true q
 obtain⟨⟨a,b⟩,c,d⟩:=h q
 rw [aG a b,Option.bind_some,aG c d,Option.bind_some,du,Option.bind_some]
 exact .some fun _=>q
theorem eJ {xs:List Int}{p:Prop} [Decidable p]{i j:Int}(h:p→(0≤i∧i<xs.length)∧0≤j∧j<xs.length):Ok (if decide p=true then(ix xs i).bind fun x3=>(ix xs j).bind fun x4=>(P.D4 x3 x4).bind fun x5=>some (!x5) else some false) fun b=>b=true→p:=by
 refine .ite (fun q=>?_) fun q=>.some fun q=>by cases q
 have q:=of_decide_eq_true q
 obtain⟨⟨a,b⟩,c,d⟩:=h q
 rw [aG a b,Option.bind_some,aG c d,Option.bind_some,du,Option.bind_some]
 exact .some fun _=>q
theorem jJ {xs:List Int}{a b:Int}{φ:Nat}(a0:0≤a)(b1:b≤xs.length)(ab:a≤b)(hl:xs.length≤1000000)(hφ:2000000≤φ):Ok (P.C1 φ xs a b) fun r=>r.Perm xs:=by
 unfold P.C1
 rw [show Pu.W (a+1)=a+1 by rw [aN]]
 refine Ok.bind (bF (fun s=>s.1.Perm xs∧a+1≤s.2∧s.2≤b+1) (fun s=>(b+1-s.2).toNat) (Q:=fun r=>∃s,r= .out s∧s.1.Perm xs) ⟨.refl _,by dsimp only;omega,by dsimp only;omega⟩ (fun s hs=>?_) (by dsimp only;omega)) fun r hr=>by
  obtain⟨s,rfl,h⟩:=hr;exact .some h
 obtain⟨l,i⟩:=s
 obtain⟨h1,h2,h3⟩:=hs
 dsimp only at h1 h2 h3
 have hll:=h1.length_eq
 unfold P.C1.b0
 dsimp only
 refine .ite (fun hlt=>?_) fun _=>.some ⟨_,rfl,h1⟩
 refine Ok.bind (bF (fun s=>s.1.Perm xs∧a≤s.2∧s.2≤i) (fun s=>s.2.toNat) (Q:=fun r=>∃s,r= .out s∧s.1.Perm xs) ⟨h1,by dsimp only;omega,by dsimp only;omega⟩ (fun s hs=>?_) (by dsimp only;omega)) fun r hr=>?_
 ·obtain⟨l2,j⟩:=s
  obtain⟨g1,g2,g3⟩:=hs
  dsimp only at g1 g2 g3
  have hl2:=g1.length_eq
  unfold P.C1.b1
  dsimp only
  rw [show Pu.W (j-1)=j-1 by rw [aN]]
  refine(eA (fun q=>by omega)).bind fun y hy=>.ite (fun hyt=>?_) fun _=>.some ⟨_,rfl,g1⟩
  have:=hy hyt
  rw [dS (by omega) (by omega) (by omega) (by omega)]
  refine .some ⟨⟨(cg (by omega) (by omega) (by omega) (by omega)).trans g1,by dsimp only;omega,by dsimp only;omega⟩,by dsimp only;omega⟩
 ·obtain⟨s,rfl,h⟩:=hr
  refine .some ⟨⟨h,?_,?_⟩,?_⟩<;>dsimp only<;>rw [aN]<;>omega
theorem jl {xs:List Int}{lo hi first:Int}{φ:Nat}(l0:0≤lo)(f0:0≤first)(h1:first+hi≤xs.length)(h2:lo<hi∨hi≤2*lo+1)(h3:lo≤1000000)(hl:xs.length≤1000000)(hφ:2000000≤φ):Ok (P.C6 φ xs lo hi first) fun r=>r.Perm xs:=by
 unfold P.C6
 refine Ok.bind (bF (fun s=>s.1.Perm xs∧0≤s.2∧s.2≤1000000∧(s.2<hi∨hi≤2*s.2+1)) (fun s=>(1000000-s.2).toNat) (Q:=fun r=>(∃s,r= .out s∧s.1.Perm xs)∨∃s,r= .rt s∧s.Perm xs) ⟨.refl _,l0,h3,h2⟩ (fun s hs=>?_) (by dsimp only;omega)) fun r hr=>by
  rcases hr with⟨s,rfl,h⟩|⟨s,rfl,h⟩
  ·exact .some h
  ·exact .some h
 obtain⟨l,r⟩:=s
 obtain⟨g1,g2,g3,g4⟩:=hs
 dsimp only at g1 g2 g3 g4
 have hll:=g1.length_eq
 unfold P.C6.b0
 dsimp only
 rw [show Pu.W (2*r)=2*r by rw [aN],show Pu.W (2*r+1)=2*r+1 by rw [aN]]
 refine .ite (fun _=>.some (.inl ⟨_,rfl,g1⟩)) fun hlt=>?_
 rw [show Pu.W (2*r+1+1)=2*r+1+1 by rw [aN],show Pu.W (first+(2*r+1))=first+(2*r+1) by rw [aN],show Pu.W (first+(2*r+1)+1)=first+(2*r+1)+1 by rw [aN],show Pu.W (first+r)=first+r by rw [aN]]
 refine(eA (fun q=>by omega)).bind fun y hy=>?_
 refine Ok.bind (Q:=fun c=>c<hi∧r<c) (.ite (fun q=>.some ⟨hy q,by omega⟩) fun _=>.some ⟨by omega,by omega⟩) fun c hc=>?_
 rw [show Pu.W (first+c)=first+c by rw [aN],aG (by omega) (by omega),Option.bind_some,aG (by omega) (by omega),Option.bind_some,du,Option.bind_some]
 refine .ite (fun _=>.some (.inr ⟨_,rfl,g1⟩)) fun _=>?_
 rw [Option.bind_some,Option.bind_some,Option.bind_some,aG (by omega) (by rw [bj];omega),Option.bind_some]
 refine .some ⟨⟨(cg (i:=first+r) (j:=first+c) (by omega) (by omega) (by omega) (by omega)).trans g1,by dsimp only;omega,by dsimp only;omega,.inl hc.1⟩,by dsimp only;omega⟩
theorem heap_ok {xs:List Int}{a b:Int}{φ:Nat}(a0:0≤a)(b1:b≤xs.length)(ab:a<b)(hl:xs.length≤1000000)(hφ:2000000≤φ):Ok (P.C2 φ xs a b) fun r=>r.Perm xs:=by
 unfold P.C2
 rw [show Pu.W (b-a)=b-a by rw [aN],show Pu.W (b-a-1)=b-a-1 by rw [aN]]
 have hq:Pu.quo .i64 (b-a-1) 2=some ((b-a-1)/2):=by
  unfold Pu.quo
  rw [if_neg (by omega),Int.tdiv_eq_ediv_of_nonneg (by omega)]
  congr 1
  exact aN
 rw [hq,Option.bind_some]
 refine Ok.bind (bF (fun s=>s.1.Perm xs∧ -1≤s.2∧s.2<b-a) (fun s=>(s.2+1).toNat) (Q:=fun r=>∃s,r= .out s∧s.1.Perm xs) ⟨.refl _,by dsimp only;omega,by dsimp only;omega⟩ (fun s hs=>?_) (by dsimp only;omega)) fun r hr=>?_
 ·obtain⟨l,i⟩:=s
  obtain⟨g1,g2,g3⟩:=hs
  dsimp only at g1 g2 g3
  have hll:=g1.length_eq
  unfold P.C2.b0
  dsimp only
  refine .ite (fun hp=>?_) fun _=>.some ⟨_,rfl,g1⟩
  rw [show Pu.W (b-a)=b-a by rw [aN]]
  refine(jl hp a0 (by omega) (.inl g3) (by omega) (by omega) hφ).bind fun r hr=>.some ⟨⟨hr.trans g1,?_,?_⟩,?_⟩<;>dsimp only<;>rw [aN]<;>omega
 ·obtain⟨s,rfl,h⟩:=hr
  show Ok (Option.bind _ _) _
  refine Ok.bind (bF (fun s=>s.1.Perm xs∧ -1≤s.2∧s.2<b-a) (fun s=>(s.2+1).toNat) (Q:=fun r=>∃s,r= .out s∧s.1.Perm xs) ⟨h,by dsimp only;omega,by dsimp only;omega⟩ (fun s hs=>?_) (by dsimp only;omega)) fun r hr=>by
   obtain⟨s,rfl,h⟩:=hr;exact .some h
  obtain⟨l,i⟩:=s
  obtain⟨g1,g2,g3⟩:=hs
  dsimp only at g1 g2 g3
  have hll:=g1.length_eq
  unfold P.C2.b1
  dsimp only
  refine .ite (fun hp=>?_) fun _=>.some ⟨_,rfl,g1⟩
  rw [show Pu.W (a+i)=a+i by rw [aN],dS (by omega) (by omega) (by omega) (by omega)]
  refine(jl (xs:=sw l a (a+i)) (Int.le_refl 0) a0 (by rw [jW];omega) (by omega) (by omega) (by rw [jW];omega) hφ).bind fun r hr=>.some ⟨⟨(hr.trans (cg (by omega) (by omega) (by omega) (by omega))).trans g1,?_,?_⟩,?_⟩<;>dsimp only<;>rw [aN]<;>omega
theorem rev_ok {xs:List Int}{a b:Int}{φ:Nat}(a0:0≤a)(b1:b≤xs.length)(ab:a<b)(hl:xs.length≤1000000)(hφ:2000000≤φ):Ok (P.C8 φ xs a b) fun r=>r.Perm xs:=by
 unfold P.C8
 rw [show Pu.W (b-1)=b-1 by rw [aN]]
 refine Ok.bind (bF (fun s=>s.1.Perm xs∧a≤s.2.1∧s.2.2<b) (fun s=>(s.2.2-s.2.1+1).toNat) (Q:=fun r=>∃s,r= .out s∧s.1.Perm xs) ⟨.refl _,by dsimp only;omega,by dsimp only;omega⟩ (fun s hs=>?_) (by dsimp only;omega)) fun r hr=>by
  obtain⟨s,rfl,h⟩:=hr;exact .some h
 obtain⟨l,i,j⟩:=s
 obtain⟨g1,g2,g3⟩:=hs
 dsimp only at g1 g2 g3
 have hll:=g1.length_eq
 unfold P.C8.b0
 dsimp only
 refine .ite (fun hlt=>?_) fun _=>.some ⟨_,rfl,g1⟩
 rw [dS (by omega) (by omega) (by omega) (by omega),show Pu.W (i+1)=i+1 by rw [aN],show Pu.W (j-1)=j-1 by rw [aN]]
 exact .some ⟨⟨(cg (by omega) (by omega) (by omega) (by omega)).trans g1,by dsimp only;omega,by dsimp only;omega⟩,by dsimp only;omega⟩
theorem part_ok {xs:List Int}{a b:Int}{φ:Nat}(a0:0≤a)(b1:b≤xs.length)(ab:a<b)(hl:xs.length≤1000000)(hφ:2000000≤φ):Ok (P.A7 φ xs a b) fun r=>r.1.Perm xs:=by
 unfold P.A7
 rw [show Pu.W (a+1)=a+1 by rw [aN]]
 refine Ok.bind (bF (fun s=>s.1.Perm xs∧a+1≤s.2.1∧s.2.1≤b∧0≤s.2.2∧s.2.2≤5) (fun s=>(5-s.2.2).toNat) (Q:=fun r=>(∃s,r= .out s∧s.1.Perm xs)∨∃s,r= .rt s∧s.1.Perm xs) ⟨.refl _,by dsimp only;omega,by dsimp only;omega,by dsimp only;omega,by dsimp only;omega⟩ (fun s hs=>?_) (by dsimp only;omega)) fun r hr=>by
  rcases hr with⟨s,rfl,h⟩|⟨s,rfl,h⟩
  ·exact .some h
  ·exact .some h
 obtain⟨l,i,j⟩:=s
 obtain⟨g1,g2,g3,g4,g5⟩:=hs
 dsimp only at g1 g2 g3 g4 g5
 have hll:=g1.length_eq
 unfold P.A7.b0
 dsimp only
 refine .ite (fun hj=>?_) fun _=>.some (.inl ⟨_,rfl,g1⟩)
 refine Ok.bind (bF (fun(s:Int)=>a+1≤s∧s≤b) (fun s=>(b-s).toNat) (Q:=fun r=>∃s,r= .out s∧a+1≤s∧s≤b) ⟨g2,g3⟩ (fun s hs=>?_) (by omega)) fun r hr=>?_
 ·unfold P.A7.b1
  dsimp only
  rw [show Pu.W (s-1)=s-1 by rw [aN]]
  refine(eJ (fun q=>by omega)).bind fun y hy=>.ite (fun q=>?_) fun _=>.some ⟨_,rfl,hs⟩
  have:=hy q
  rw [show Pu.W (s+1)=s+1 by rw [aN]]
  exact .some ⟨⟨by omega,by omega⟩,by omega⟩
 ·obtain⟨s,rfl,h1,h2⟩:=hr
  show Ok (if s=b then _ else _) _
  refine .ite (fun _=>.some (.inr ⟨_,rfl,g1⟩)) fun hne=>.ite (fun _=>.some (.inr ⟨_,rfl,g1⟩)) fun _=>?_
  rw [show Pu.W (s-1)=s-1 by rw [aN],dS (by omega) (by omega) (by omega) (by omega)]
  have hsw:(st (st l s (el l (s-1))) (s-1) (el l s)).Perm xs:=(cg (i:=s) (j:=s-1) (by omega) (by omega) (by omega) (by omega)).trans g1
  generalize st (st l s (el l (s-1))) (s-1) (el l s)=m at hsw
  have hm:=hsw.length_eq
  refine Ok.bind (Q:=fun r=>r.Perm xs) (.ite (fun _=>?_) fun _=>.some hsw) fun y hy=>?_
  ·refine Ok.bind (bF (fun(z:List Int×Int)=>z.1.Perm xs∧z.2≤s-1) (fun z=>z.2.toNat) (Q:=fun r=>∃z,r= .out z∧z.1.Perm xs) ⟨hsw,by dsimp only;omega⟩ (fun z hz=>?_) (by dsimp only;omega)) fun r hr=>by
    obtain⟨z,rfl,h⟩:=hr;exact .some h
   obtain⟨l2,k⟩:=z
   obtain⟨k1,k2⟩:=hz
   dsimp only at k1 k2
   have hl2:=k1.length_eq
   unfold P.A7.b2
   dsimp only
   refine .ite (fun hk=>?_) fun _=>.some ⟨_,rfl,k1⟩
   rw [show Pu.W (k-1)=k-1 by rw [aN],aG (by omega) (by omega),Option.bind_some,aG (by omega) (by omega),Option.bind_some,du,Option.bind_some]
   refine .ite (fun _=>.some ⟨_,rfl,k1⟩) fun _=>?_
   rw [Option.bind_some,Option.bind_some,Option.bind_some,aG (by omega) (by rw [bj];omega),Option.bind_some]
   exact .some ⟨⟨(cg (i:=k) (j:=k-1) (by omega) (by omega) (by omega) (by omega)).trans k1,by dsimp only;omega⟩,by dsimp only;omega⟩
  ·have hyl:=hy.length_eq
   refine Ok.bind (Q:=fun r=>r.Perm xs) (.ite (fun _=>?_) fun _=>.some hy) fun z hz=>?_
   ·rw [show Pu.W (s+1)=s+1 by rw [aN]]
    refine Ok.bind (bF (fun(z:List Int×Int)=>z.1.Perm xs∧s+1≤z.2∧z.2≤b) (fun z=>(b-z.2).toNat) (Q:=fun r=>∃z,r= .out z∧z.1.Perm xs) ⟨hy,by dsimp only;omega,by dsimp only;omega⟩ (fun z hz=>?_) (by dsimp only;omega)) fun r hr=>by
     obtain⟨z,rfl,h⟩:=hr;exact .some h
    obtain⟨l2,k⟩:=z
    obtain⟨k1,k2,k3⟩:=hz
    dsimp only at k1 k2 k3
    have hl2:=k1.length_eq
    unfold P.A7.b3
    dsimp only
    refine .ite (fun hk=>?_) fun _=>.some ⟨_,rfl,k1⟩
    rw [show Pu.W (k-1)=k-1 by rw [aN],aG (by omega) (by omega),Option.bind_some,aG (by omega) (by omega),Option.bind_some,du,Option.bind_some]
    refine .ite (fun _=>.some ⟨_,rfl,k1⟩) fun _=>?_
    rw [Option.bind_some,Option.bind_some,Option.bind_some,aG (by omega) (by rw [bj];omega),Option.bind_some,show Pu.W (k+1)=k+1 by rw [aN]]
    exact .some ⟨⟨(cg (i:=k) (j:=k-1) (by omega) (by omega) (by omega) (by omega)).trans k1,by dsimp only;omega,by dsimp only;omega⟩,by dsimp only;omega⟩
   ·rw [show Pu.W (j+1)=j+1 by rw [aN]]
    exact .some ⟨⟨hz,by dsimp only;omega,by dsimp only;omega,by dsimp only;omega,by dsimp only;omega⟩,by dsimp only;omega⟩
theorem band_le {a b:Int}(h0:0≤b)(h1:b<9223372036854775808):0≤Pu.band .u64 a b∧Pu.band .u64 a b≤b:=by
 have h:(BitVec.ofInt 64 a&&&BitVec.ofInt 64 b).toNat≤b.toNat:=by
  rw [BitVec.toNat_and]
  refine Nat.le_trans Nat.and_le_right ?_
  rw [BitVec.toNat_ofInt]
  have:b%(2^64:Nat)=b:=Int.emod_eq_of_lt h0 (by show b<18446744073709551616;omega)
  rw [this];exact Nat.le_refl _
 have e:Pu.band .u64 a b=((BitVec.ofInt 64 a&&&BitVec.ofInt 64 b).toNat:Int):=by
  unfold Pu.band
  show IntKind.u64.wrap ((BitVec.ofInt 64 a&&&BitVec.ofInt 64 b).toNat:Int)=_
  generalize (BitVec.ofInt 64 a&&&BitVec.ofInt 64 b).toNat=z at h
  unfold IntKind.wrap
  show((z:Int)%18446744073709551616)=z
  exact Int.emod_eq_of_lt (by omega) (by omega)
 rw [e];omega
def lenTab:ByteArray:=⟨#[0,1,2,2,3,3,3,3,4,4,4,4,4,4,4,4,5,5,5,5,5,5,5,5,5,5,5,5,5,5,5,5,6,6,6,6,6,6,6,6,6,6,6,6,6,6,6,6,6,6,6,6,6,6,6,6,6,6,6,6,6,6,6,6,7,7,7,7,7,7,7,7,7,7,7,7,7,7,7,7,7,7,7,7,7,7,7,7,7,7,7,7,7,7,7,7,7,7,7,7,7,7,7,7,7,7,7,7,7,7,7,7,7,7,7,7,7,7,7,7,7,7,7,7,7,7,7,7,8,8,8,8,8,8,8,8,8,8,8,8,8,8,8,8,8,8,8,8,8,8,8,8,8,8,8,8,8,8,8,8,8,8,8,8,8,8,8,8,8,8,8,8,8,8,8,8,8,8,8,8,8,8,8,8,8,8,8,8,8,8,8,8,8,8,8,8,8,8,8,8,8,8,8,8,8,8,8,8,8,8,8,8,8,8,8,8,8,8,8,8,8,8,8,8,8,8,8,8,8,8,8,8,8,8,8,8,8,8,8,8,8,8,8,8,8,8,8,8,8,8,8,8,8,8,8,8]⟩
theorem tab_ok:∀k:Fin 256,∃v:Fin 9,sidx lenTab ((k:Nat):Int)=some ((v:Nat):Int)∧(k.val=0∨2^v.val≤2*k.val):=by decide+kernel
theorem jV {n:Int}{k:Nat}(h0:0≤n)(hk:k≤64):Pu.shr .u64 n (k:Int)=some (n/2^k):=by
 unfold Pu.shr
 rw [if_neg (by omega),Int.toNat_natCast,Nat.min_eq_left (show k≤IntKind.u64.bits from hk),Int.fdiv_eq_ediv_of_nonneg _ (Int.le_of_lt (Int.pow_pos (by omega)))]
theorem u8_id {n:Int}(h0:0≤n)(h1:n<256):IntKind.u8.wrap n=n:=by
 unfold IntKind.wrap
 show n%256=n
 exact Int.emod_eq_of_lt h0 h1
theorem gR {n:Int}(h0:0≤n)(h1:n<18446744073709551616):IntKind.u64.wrap n=n:=by
 unfold IntKind.wrap
 show n%18446744073709551616=n
 exact Int.emod_eq_of_lt h0 h1
theorem jL {n:Int}(h0:1≤n)(h1:n≤1000000):Ok (P.J2 n) fun v=>0≤v∧v≤63∧(2:Int)^v.toNat≤2*n:=by
 unfold P.J2 P.G4
 rw [if_neg (by omega),Option.bind_some]
 dsimp only
 refine Ok.bind (Ok.bind (Q:=fun y=>0≤y.1∧y.1≤65535∧1≤y.1∧∃e:Nat,e≤16∧y.2=(e:Int)∧y.1*2^e≤n) (.ite (fun hp=>?_) fun hp=>.some ⟨by dsimp only;omega,by dsimp only;omega,by dsimp only;omega,0,by omega,rfl,by simp⟩) fun y1 hy1=>?_) fun v hv=>.some hv
 ·rw [show(16:Int)=((16:Nat):Int) from rfl,jV (by omega) (by omega),Option.bind_some]
  refine .some ⟨by dsimp only;omega,by dsimp only;omega,by dsimp only;omega,16,by omega,rfl,by dsimp only;omega⟩
 ·obtain⟨x,z⟩:=y1
  obtain⟨a1,a2,a3,e,e1,e2,e3⟩:=hy1
  dsimp only at a1 a2 a3 e2 e3 ⊢
  refine Ok.bind (Q:=fun y=>1≤y.1∧y.1≤255∧∃e:Nat,e≤24∧y.2=(e:Int)∧y.1*2^e≤n) (.ite (fun hp=>?_) fun hp=>.some ⟨by dsimp only;omega,by dsimp only;omega,e,by omega,e2,e3⟩) fun y2 hy2=>?_
  ·rw [show(8:Int)=((8:Nat):Int) from rfl,jV (by omega) (by omega),Option.bind_some,aN]
   refine .some ⟨by dsimp only;omega,by dsimp only;omega,e+8,by omega,by dsimp only;omega,?_⟩
   dsimp only
   rw [Int.pow_add,Int.mul_comm (2^e) (2^8),←Int.mul_assoc]
   refine Int.le_trans (Int.mul_le_mul_of_nonneg_right ?_ (Int.le_of_lt (Int.pow_pos (by omega)))) e3
   show x/256*256≤x
   omega
  ·obtain⟨x2,z2⟩:=y2
   obtain⟨b1,b2,e',f1,f2,f3⟩:=hy2
   dsimp only at b1 b2 f2 f3 ⊢
   obtain⟨v,v1,v2⟩:=tab_ok ⟨x2.toNat,by omega⟩
   have hx:((x2.toNat:Nat):Int)=x2:=by omega
   dsimp only at v1 v2
   rw [hx] at v1
   rw [u8_id (by omega) (by omega)]
   show Ok (Option.bind (sidx lenTab x2) _) _
   have hv:=v.2
   rw [v1,Option.bind_some,show Pu.W ((v.val:Nat):Int)=((v.val:Nat):Int) by rw [aN],f2,aN]
   refine .some ⟨by omega,by omega,?_⟩
   rw [show((e':Int)+((v.val:Nat):Int)).toNat=e'+v.val by omega,Int.pow_add,Int.mul_comm]
   have h5:(2:Int)^v.val≤2*x2:=by
    have:2^v.val≤2*x2.toNat:=by omega
    have h6:((2^v.val:Nat):Int)≤((2*x2.toNat:Nat):Int):=by exact_mod_cast this
    rw [Int.natCast_pow] at h6
    have h7:((2*x2.toNat:Nat):Int)=2*x2:=by omega
    rw [h7] at h6;exact h6
   have h8:(2:Int)^v.val*2^e'≤2*x2*2^e':=Int.mul_le_mul_of_nonneg_right h5 (Int.le_of_lt (Int.pow_pos (by omega)))
   rw [Int.mul_assoc] at h8
   omega
theorem quo4 {n:Int}{k:Nat}(h0:0≤n)(h1:n≤1000000)(hk:1≤k)(hk2:k≤1000):Pu.quo .i64 n (k:Int)=some (n/k):=by
 unfold Pu.quo
 rw [if_neg (by omega),Int.tdiv_eq_ediv_of_nonneg h0]
 congr 1
 have h2:n/(k:Int)≤n:=Int.ediv_le_self _ h0
 have h3:0≤n/(k:Int):=Int.ediv_nonneg h0 (by omega)
 exact aN
theorem brk_ok {xs:List Int}{a b:Int}{φ:Nat}(a0:0≤a)(b1:b≤xs.length)(ab:a+8≤b)(hl:xs.length≤1000000)(hφ:2000000≤φ):Ok (P.C0 φ xs a b) fun r=>r.Perm xs:=by
 unfold P.C0
 rw [show Pu.W (b-a)=b-a by rw [aN],if_pos (by omega)]
 unfold P.G6
 rw [gR (by omega) (by omega)]
 refine Ok.bind (Q:=fun r=>r.Perm xs) (Ok.bind (Q:=fun x=>1≤x∧x≤2*(b-a)) (Ok.bind (jL (by omega) (by omega)) fun v ⟨v0,v1,v2⟩=>?_) fun x1 hx1=>?_) fun r hr=>.some hr
 ·have:Pu.shl .u64 1 v=some (2^v.toNat):=by
   unfold Pu.shl
   rw [if_neg (by omega)]
   have h5:min v.toNat (IntKind.u64.bits)=v.toNat:=Nat.min_eq_left (by show v.toNat≤64;omega)
   rw [h5,Int.one_mul,gR (Int.le_of_lt (Int.pow_pos (by omega))) (by omega)]
  rw [this,Option.bind_some]
  have hp:(0:Int)<2^v.toNat:=Int.pow_pos (by omega)
  exact .some ⟨by omega,v2⟩
 ·rw [show(4:Int)=((4:Nat):Int) from rfl,quo4 (by omega) (by omega) (by omega) (by omega),Option.bind_some]
  have hq:2≤(b-a)/((4:Nat):Int)∧(b-a)/((4:Nat):Int)*2+2≤b-a:=by omega
  generalize hg:(b-a)/((4:Nat):Int)=q at hq
  rw [show Pu.W (q*2)=q*2 by rw [aN],show Pu.W (a+q*2)=a+q*2 by rw [aN],show Pu.W (a+q*2-1)=a+q*2-1 by rw [aN]]
  refine Ok.bind (bF (fun s=>s.1.Perm xs∧a+q*2-1≤s.2.2∧s.2.2≤a+q*2+2) (fun s=>(a+q*2+2-s.2.2).toNat) (Q:=fun r=>∃s,r= .out s∧s.1.Perm xs) ⟨.refl _,by dsimp only;omega,by dsimp only;omega⟩ (fun s hs=>?_) (by dsimp only;omega)) fun r hr=>by
   obtain⟨s,rfl,h⟩:=hr;exact .some h
  obtain⟨l,rnd,i⟩:=s
  obtain⟨g1,g2,g3⟩:=hs
  dsimp only at g1 g2 g3
  have hll:=g1.length_eq
  unfold P.C0.b0
  dsimp only
  rw [show Pu.W (b-a)=b-a by rw [aN],show(4:Int)=((4:Nat):Int) from rfl,quo4 (by omega) (by omega) (by omega) (by omega),Option.bind_some,hg,show Pu.W (q*2)=q*2 by rw [aN],show Pu.W (a+q*2)=a+q*2 by rw [aN],show Pu.W (a+q*2+1)=a+q*2+1 by rw [aN]]
  refine .ite (fun hi=>?_) fun _=>.some ⟨_,rfl,g1⟩
  have hnx:Ok (P.G2 rnd) fun _=>True:=by
   unfold P.G2 Pu.shl Pu.shr
   rw [if_neg (by omega),Option.bind_some,if_neg (by omega),Option.bind_some,if_neg (by omega),Option.bind_some]
   exact .some trivial
  refine hnx.bind fun x5 _=>?_
  rw [gR (by omega) (by omega)]
  have hb:=band_le (a:=x5.2) (b:=x1-1) (by omega) (by omega)
  generalize Pu.band .u64 x5.2 (x1-1)=z at hb
  rw [show Pu.W z=z by rw [aN]]
  refine Ok.bind (Q:=fun y=>0≤y∧y<b-a) (.ite (fun h=>.some ?_) fun h=>.some ⟨by omega,by omega⟩) fun y hy=>?_
  ·rw [aN];omega
  ·rw [show Pu.W (a+y)=a+y by rw [aN],dS (by omega) (by omega) (by omega) (by omega),show Pu.W (i+1)=i+1 by rw [aN]]
   exact .some ⟨⟨(cg (by omega) (by omega) (by omega) (by omega)).trans g1,by dsimp only;omega,by dsimp only;omega⟩,by dsimp only;omega⟩
theorem iC {xs:List Int}{a b z:Int}(a0:0≤a)(a1:a<xs.length)(b0:0≤b)(b1:b<xs.length):Ok (P.D9 xs a b z) fun r=>(r.2.1=a∧r.2.2=b)∨(r.2.1=b∧r.2.2=a):=by
 unfold P.D9
 rw [aG b0 b1,Option.bind_some,aG a0 a1,Option.bind_some,du,Option.bind_some]
 exact .ite (fun _=>.some (.inr ⟨rfl,rfl⟩)) fun _=>.some (.inl ⟨rfl,rfl⟩)
theorem jM {xs:List Int}{a b c z:Int}(a0:0≤a)(a1:a<xs.length)(b0:0≤b)(b1:b<xs.length)(c0:0≤c)(c1:c<xs.length):Ok (P.E3 xs a b c z) fun r=>r.2=a∨r.2=b∨r.2=c:=by
 unfold P.E3
 refine(iC a0 a1 b0 b1).bind fun r1 h1=>(iC (by omega) (by omega) c0 c1).bind fun r2 h2=>(iC (by omega) (by omega) (by omega) (by omega)).bind fun r3 h3=>.some ?_
 dsimp only;omega
theorem gG {xs:List Int}{a z:Int}(a0:1≤a)(a1:a+1<xs.length)(hl:xs.length≤1000000):Ok (P.D1 xs a z) fun r=>a-1≤r.2∧r.2≤a+1:=by
 unfold P.D1
 rw [show Pu.W (a-1)=a-1 by rw [aN],show Pu.W (a+1)=a+1 by rw [aN]]
 refine(jM (by omega) (by omega) (by omega) (by omega) (by omega) (by omega)).bind fun r h=>.some ?_
 dsimp only;omega
theorem choose_ok {xs:List Int}{a b:Int}(a0:0≤a)(b1:b≤xs.length)(ab:a+12<b)(hl:xs.length≤1000000):Ok (P.B7 xs a b) fun r=>a≤r.1∧r.1<b:=by
 unfold P.B7
 rw [show Pu.W (b-a)=b-a by rw [aN],show(4:Int)=((4:Nat):Int) from rfl,quo4 (by omega) (by omega) (by omega) (by omega),Option.bind_some,Option.bind_some,Option.bind_some]
 have hq:3≤(b-a)/((4:Nat):Int)∧(b-a)/((4:Nat):Int)*4≤b-a:=by omega
 generalize hg:(b-a)/((4:Nat):Int)=q at hq
 rw [show Pu.W (q*1)=q*1 by rw [aN],show Pu.W (q*2)=q*2 by rw [aN],show Pu.W (q*3)=q*3 by rw [aN],show Pu.W (a+q*1)=a+q*1 by rw [aN],show Pu.W (a+q*2)=a+q*2 by rw [aN],show Pu.W (a+q*3)=a+q*3 by rw [aN],if_pos (by omega)]
 refine Ok.bind (Q:=fun y=>a≤y.2∧y.2<b) (Ok.bind (Q:=fun y=>(a≤y.2.1∧y.2.1<b)∧(a≤y.2.2.1∧y.2.2.1<b)∧(a≤y.2.2.2∧y.2.2.2<b)) (.ite (fun h=>?_) fun h=>.some ⟨⟨by dsimp only;omega,by dsimp only;omega⟩,⟨by dsimp only;omega,by dsimp only;omega⟩,by dsimp only;omega,by dsimp only;omega⟩) fun y hy=>?_) fun y hy=>?_
 ·refine(gG (by omega) (by omega) hl).bind fun r1 h1=>(gG (by omega) (by omega) hl).bind fun r2 h2=>(gG (by omega) (by omega) hl).bind fun r3 h3=>.some ⟨⟨?_,?_⟩,⟨?_,?_⟩,?_,?_⟩<;>dsimp only<;>omega
 ·obtain⟨⟨c1,c2⟩,⟨c3,c4⟩,c5,c6⟩:=hy
  refine(jM (by omega) (by omega) (by omega) (by omega) (by omega) (by omega)).bind fun r h=>.some ?_
  dsimp only;omega
 ·exact .ite (fun _=>.some hy) fun _=>.ite (fun _=>.some hy) fun _=>.some hy
theorem pe_ok {xs:List Int}{a b p:Int}{φ:Nat}(a0:0≤a)(b1:b≤xs.length)(ab:a+2≤b)(p0:a≤p)(p1:p<b)(hl:xs.length≤1000000)(hφ:2000000≤φ):Ok (P.B2 φ xs a b p) fun r=>r.1.Perm xs∧a<r.2∧r.2≤b:=by
 unfold P.B2
 rw [dS (by omega) (by omega) (by omega) (by omega),show Pu.W (a+1)=a+1 by rw [aN],show Pu.W (b-1)=b-1 by rw [aN]]
 refine Ok.bind (bF (fun s=>s.1.Perm xs∧a+1≤s.2.1∧s.2.1≤b∧a≤s.2.2∧s.2.2≤b-1) (fun s=>(s.2.2-s.2.1+2).toNat) (Q:=fun r=>∃s,r= .out s∧s.1.Perm xs∧a+1≤s.2.1∧s.2.1≤b) ⟨cg (by omega) (by omega) (by omega) (by omega),by dsimp only;omega,by dsimp only;omega,by dsimp only;omega,by dsimp only;omega⟩ (fun s hs=>?_) (by dsimp only;omega)) fun r hr=>by
  obtain⟨s,rfl,h1,h2,h3⟩:=hr;exact .some ⟨h1,by dsimp only;omega,h3⟩
 obtain⟨l,i,j⟩:=s
 obtain⟨g1,g2,g3,g4,g5⟩:=hs
 dsimp only at g1 g2 g3 g4 g5
 have hll:=g1.length_eq
 unfold P.B2.b0
 dsimp only
 refine Ok.bind (bF (fun(s:Int)=>i≤s∧(s≤j+1∨s=i)) (fun s=>(j+1-s).toNat) (Q:=fun r=>∃s,r= .out s∧i≤s∧(s≤j+1∨s=i)) ⟨by omega,.inr rfl⟩ (fun s hs=>?_) (by omega)) fun r hr=>?_
 ·unfold P.B2.b1
  dsimp only
  refine(eJ (fun q=>by omega)).bind fun y hy=>.ite (fun q=>?_) fun _=>.some ⟨_,rfl,hs⟩
  have:=hy q
  rw [show Pu.W (s+1)=s+1 by rw [aN]]
  exact .some ⟨⟨by omega,by omega⟩,by omega⟩
 ·obtain⟨i2,rfl,h1,h2⟩:=hr
  show Ok (Option.bind _ _) _
  refine Ok.bind (bF (fun(s:Int)=>a≤s∧s≤j) (fun s=>(s-a+1).toNat) (Q:=fun r=>∃s,r= .out s∧a≤s∧s≤j) ⟨g4,by omega⟩ (fun s hs=>?_) (by omega)) fun r hr=>?_
  ·unfold P.B2.b2
   dsimp only
   refine(eA (fun q=>by omega)).bind fun y hy=>.ite (fun q=>?_) fun _=>.some ⟨_,rfl,hs⟩
   have:=hy q
   rw [show Pu.W (s-1)=s-1 by rw [aN]]
   exact .some ⟨⟨by omega,by omega⟩,by omega⟩
  ·obtain⟨j2,rfl,h3,h4⟩:=hr
   show Ok (if j2<i2 then _ else _) _
   refine .ite (fun _=>.some ⟨_,rfl,g1,by dsimp only;omega,by dsimp only;omega⟩) fun hge=>?_
   rw [dS (by omega) (by omega) (by omega) (by omega),show Pu.W (i2+1)=i2+1 by rw [aN],show Pu.W (j2-1)=j2-1 by rw [aN]]
   exact .some ⟨⟨(cg (by omega) (by omega) (by omega) (by omega)).trans g1,by dsimp only;omega,by dsimp only;omega,by dsimp only;omega,by dsimp only;omega⟩,by dsimp only;omega⟩
theorem pt_ok {xs:List Int}{a b p:Int}{φ:Nat}(a0:0≤a)(b1:b≤xs.length)(ab:a+2≤b)(p0:a≤p)(p1:p<b)(hl:xs.length≤1000000)(hφ:2000000≤φ):Ok (P.B0 φ xs a b p) fun r=>r.1.Perm xs∧a≤r.2.1∧r.2.1<b:=by
 unfold P.B0
 rw [aG (by omega) (by omega),Option.bind_some,aG (by omega) (by omega),Option.bind_some,Option.bind_some,aG (by omega) (by rw [bj];omega),Option.bind_some,show Pu.W (a+1)=a+1 by rw [aN],show Pu.W (b-1)=b-1 by rw [aN]]
 have hp0:(st (st xs a (el xs p)) p (el xs a)).Perm xs:=cg (i:=a) (j:=p) (by omega) (by omega) (by omega) (by omega)
 refine Ok.bind (bF (fun(s:Int)=>a+1≤s∧s≤b) (fun s=>(b-s).toNat) (Q:=fun r=>∃s,r= .out s∧a+1≤s∧s≤b) ⟨by omega,by omega⟩ (fun s hs=>?_) (by omega)) fun r hr=>?_
 ·unfold P.B0.b0
  rw [show Pu.W (b-1)=b-1 by rw [aN]]
  have hll:=hp0.length_eq
  refine(eA (fun q=>by omega)).bind fun y hy=>.ite (fun q=>?_) fun _=>.some ⟨_,rfl,hs⟩
  have:=hy q
  rw [show Pu.W (s+1)=s+1 by rw [aN]]
  exact .some ⟨⟨by omega,by omega⟩,by omega⟩
 ·obtain⟨i,rfl,i0,i1⟩:=hr
  show Ok (Option.bind _ _) _
  refine Ok.bind (bF (fun(s:Int)=>a≤s∧s≤b-1) (fun s=>(s-a+1).toNat) (Q:=fun r=>∃s,r= .out s∧a≤s∧s≤b-1) ⟨by omega,by omega⟩ (fun s hs=>?_) (by omega)) fun r hr=>?_
  ·unfold P.B0.b1
   have hll:=hp0.length_eq
   refine(eJ (fun q=>by omega)).bind fun y hy=>.ite (fun q=>?_) fun _=>.some ⟨_,rfl,hs⟩
   have:=hy q
   rw [show Pu.W (s-1)=s-1 by rw [aN]]
   exact .some ⟨⟨by omega,by omega⟩,by omega⟩
  ·obtain⟨j,rfl,j0,j1⟩:=hr
   generalize st (st xs a (el xs p)) p (el xs a)=m at hp0
   have hm:=hp0.length_eq
   show Ok (if j<i then _ else _) _
   refine .ite (fun _=>?_) fun hge=>?_
   ·rw [dS (by omega) (by omega) (by omega) (by omega)]
    exact .some ⟨(cg (by omega) (by omega) (by omega) (by omega)).trans hp0,j0,by dsimp only;omega⟩
   ·rw [dS (by omega) (by omega) (by omega) (by omega),show Pu.W (i+1)=i+1 by rw [aN],show Pu.W (j-1)=j-1 by rw [aN]]
    refine Ok.bind (bF (fun s=>s.1.Perm xs∧a+1≤s.2.1∧s.2.1≤b∧a≤s.2.2∧s.2.2≤b-1) (fun s=>(s.2.2-s.2.1+2).toNat) (Q:=fun r=>∃s,r= .out s∧s.1.Perm xs∧a≤s.2.2∧s.2.2≤b-1) ⟨(cg (i:=i) (j:=j) (by omega) (by omega) (by omega) (by omega)).trans hp0,by dsimp only;omega,by dsimp only;omega,by dsimp only;omega,by dsimp only;omega⟩ (fun s hs=>?_) (by dsimp only;omega)) fun r hr=>?_
    ·obtain⟨l,i,j⟩:=s
     obtain⟨g1,g2,g3,g4,g5⟩:=hs
     dsimp only at g1 g2 g3 g4 g5
     have hll:=g1.length_eq
     unfold P.B0.b2
     dsimp only
     refine Ok.bind (bF (fun(s:Int)=>i≤s∧(s≤j+1∨s=i)) (fun s=>(j+1-s).toNat) (Q:=fun r=>∃s,r= .out s∧i≤s∧(s≤j+1∨s=i)) ⟨by omega,.inr rfl⟩ (fun s hs=>?_) (by omega)) fun r hr=>?_
     ·unfold P.B0.b3
      dsimp only
      refine(eA (fun q=>by omega)).bind fun y hy=>.ite (fun q=>?_) fun _=>.some ⟨_,rfl,hs⟩
      have:=hy q
      rw [show Pu.W (s+1)=s+1 by rw [aN]]
      exact .some ⟨⟨by omega,by omega⟩,by omega⟩
     ·obtain⟨i2,rfl,h1,h2⟩:=hr
      show Ok (Option.bind _ _) _
      refine Ok.bind (bF (fun(s:Int)=>a≤s∧s≤j) (fun s=>(s-a+1).toNat) (Q:=fun r=>∃s,r= .out s∧a≤s∧s≤j) ⟨g4,by omega⟩ (fun s hs=>?_) (by omega)) fun r hr=>?_
      ·unfold P.B0.b4
       dsimp only
       refine(eJ (fun q=>by omega)).bind fun y hy=>.ite (fun q=>?_) fun _=>.some ⟨_,rfl,hs⟩
       have:=hy q
       rw [show Pu.W (s-1)=s-1 by rw [aN]]
       exact .some ⟨⟨by omega,by omega⟩,by omega⟩
      ·obtain⟨j2,rfl,h3,h4⟩:=hr
       show Ok (if j2<i2 then _ else _) _
       refine .ite (fun _=>.some ⟨_,rfl,g1,by dsimp only;omega,by dsimp only;omega⟩) fun hge=>?_
       rw [dS (by omega) (by omega) (by omega) (by omega),show Pu.W (i2+1)=i2+1 by rw [aN],show Pu.W (j2-1)=j2-1 by rw [aN]]
       exact .some ⟨⟨(cg (by omega) (by omega) (by omega) (by omega)).trans g1,by dsimp only;omega,by dsimp only;omega,by dsimp only;omega,by dsimp only;omega⟩,by dsimp only;omega⟩
    ·obtain⟨s,rfl,g1,g2,g3⟩:=hr
     have hll:=g1.length_eq
     show Ok (Option.bind _ _) _
     rw [dS (by omega) (by omega) (by omega) (by omega)]
     exact .some ⟨(cg (by omega) (by omega) (by omega) (by omega)).trans g1,g2,by dsimp only;omega⟩
theorem pdq_ok:∀(k:Nat) {xs:List Int} {a b lim:Int} {φ:Nat},0≤a→a≤b→b≤xs.length→b-a≤k→xs.length≤1000000→2000001+k≤φ→Ok (P.B1 φ xs a b lim) fun r=>r.Perm xs:=by
 intro k
 induction k with
 | zero=>
   intro xs a b lim φ a0 ab b1 hk hl hφ
   obtain⟨φ,rfl⟩:∃z,φ=z+1:=⟨φ-1,by omega⟩
   unfold P.B1
   obtain⟨ψ,rfl⟩:∃z,φ=z+1:=⟨φ-1,by omega⟩
   refine Ok.bind (bF (fun s=>s=(xs,a,b,lim,true,true)) (fun _=>0) (Q:=fun r=>∃s,r= .rt s∧s.Perm xs) rfl (fun s hs=>?_) (by omega)) fun r hr=>by
    obtain⟨s,rfl,h⟩:=hr;exact .some h
   subst hs
   unfold P.B1.b0
   dsimp only
   rw [show Pu.W (b-a)=b-a by rw [aN],if_pos (by omega)]
   exact(jJ a0 b1 ab hl (by omega)).bind fun r hr=>.some ⟨_,rfl,hr⟩
 | succ k ih=>
   intro xs a b lim φ a0 ab b1 hk hl hφ
   obtain⟨φ,rfl⟩:∃z,φ=z+1:=⟨φ-1,by omega⟩
   unfold P.B1
   refine Ok.bind (bF (fun s=>s.1.Perm xs∧a≤s.2.1∧s.2.1≤s.2.2.1∧s.2.2.1≤b) (fun s=>(s.2.2.1-s.2.1).toNat) (Q:=fun r=>(∃s,r= .out s∧s.1.Perm xs)∨∃s,r= .rt s∧s.Perm xs) ⟨.refl _,Int.le_refl _,ab,Int.le_refl _⟩ (fun s hs=>?_) (by dsimp only;omega)) fun r hr=>by
    rcases hr with⟨s,rfl,h⟩|⟨s,rfl,h⟩
    ·exact .some h
    ·exact .some h
   obtain⟨l,a',b',lim',wb,wp⟩:=s
   obtain⟨g1,g2,g3,g4⟩:=hs
   dsimp only at g1 g2 g3 g4
   have hll:=g1.length_eq
   unfold P.B1.b0
   dsimp only
   rw [show Pu.W (b'-a')=b'-a' by rw [aN]]
   refine .ite (fun h12=>?_) fun h12=>.ite (fun _=>?_) fun _=>?_
   ·exact(jJ (by omega) (by omega) g3 (by omega) (by omega)).bind fun r hr=>.some (.inr ⟨_,rfl,hr.trans g1⟩)
   ·exact(heap_ok (by omega) (by omega) (by omega) (by omega) (by omega)).bind fun r hr=>.some (.inr ⟨_,rfl,hr.trans g1⟩)
   refine Ok.bind (Q:=fun y=>y.1.Perm xs) (.ite (fun _=>(brk_ok (by omega) (by omega) (by omega) (by omega) (by omega)).bind fun r hr=>.some (hr.trans g1)) fun _=>.some g1) fun y3 h3=>?_
   have hl3:=h3.length_eq
   refine(choose_ok (by omega) (by omega) (by omega) (by omega)).bind fun x5 ⟨p0,p1⟩=>?_
   refine Ok.bind (Q:=fun y=>y.1.Perm xs∧a'≤y.2.1∧y.2.1<b') (.ite (fun _=>(rev_ok (by omega) (by omega) (by omega) (by omega) (by omega)).bind fun r hr=>.some ⟨hr.trans h3,?_,?_⟩) fun _=>.some ⟨h3,p0,p1⟩) fun y4 ⟨h4,q0,q1⟩=>?_
   ·dsimp only
    rw [show Pu.W (b'-1)=b'-1 by rw [aN],show Pu.W (x5.1-a')=x5.1-a' by rw [aN],aN];omega
   ·dsimp only
    rw [show Pu.W (b'-1)=b'-1 by rw [aN],show Pu.W (x5.1-a')=x5.1-a' by rw [aN],aN];omega
   have hl4:=h4.length_eq
   refine Ok.bind (Q:=fun y=>(∃z,y= .out z∧z.Perm xs)∨∃z,y= .rt (.rt z)∧z.Perm xs) (.ite (fun _=>(part_ok (by omega) (by omega) (by omega) (by omega) (by omega)).bind fun r hr=>.ite (fun _=>.some (.inr ⟨_,rfl,hr.trans h4⟩)) fun _=>.some (.inl ⟨_,rfl,hr.trans h4⟩)) fun _=>.some (.inl ⟨_,rfl,h4⟩)) fun y5 h5=>?_
   rcases h5.symm with⟨z,rfl,h6⟩|⟨z,rfl,h6⟩
   ·exact .some (.inr ⟨_,rfl,h6⟩)
   clear h5
   have h5:=h6
   have hl5:=h5.length_eq
   show Ok (Option.bind _ _) _
   refine Ok.bind (Q:=fun _=>True) (.ite (fun hpos=>?_) fun _=>.some trivial) fun y7 _=>?_
   ·have hpos:=of_decide_eq_true hpos
    rw [show Pu.W (a'-1)=a'-1 by rw [aN],aG (by omega) (by omega),Option.bind_some,aG (by omega) (by omega),Option.bind_some,du,Option.bind_some]
    exact .some trivial
   refine .ite (fun _=>(pe_ok (by omega) (by omega) (by omega) q0 q1 (by omega) (by omega)).bind fun r ⟨r1,r2,r3⟩=>.some ⟨⟨r1.trans h5,by dsimp only;omega,by dsimp only;omega,g4⟩,by dsimp only;omega⟩) fun _=>?_
   refine(pt_ok (by omega) (by omega) (by omega) q0 q1 (by omega) (by omega)).bind fun r ⟨r1,r2,r3⟩=>?_
   have hr1:=r1.trans h5
   have hlr:=hr1.length_eq
   rw [show(8:Int)=((8:Nat):Int) from rfl,quo4 (by omega) (by omega) (by omega) (by omega),Option.bind_some,show Pu.W (r.2.1-a')=r.2.1-a' by rw [aN],show Pu.W (b'-r.2.1)=b'-r.2.1 by rw [aN],show Pu.W (r.2.1+1)=r.2.1+1 by rw [aN]]
   refine Ok.bind (Q:=fun y=>y.1.Perm xs∧a'≤y.2.1∧y.2.1≤y.2.2.1∧y.2.2.1≤b'∧y.2.2.1-y.2.1<b'-a') (.ite (fun _=>?_) fun _=>?_) fun y ⟨e1,e2,e3,e4,e5⟩=>.some ⟨⟨e1,by dsimp only;omega,by dsimp only;omega,by dsimp only;omega⟩,by dsimp only;omega⟩
   ·exact(ih (by omega) (by omega) (by omega) (by omega) (by omega) (by omega)).bind fun r' h'=>.some ⟨h'.trans hr1,by dsimp only;omega,by dsimp only;omega,by dsimp only;omega,by dsimp only;omega⟩
   ·exact(ih (by omega) (by omega) (by omega) (by omega) (by omega) (by omega)).bind fun r' h'=>.some ⟨h'.trans hr1,by dsimp only;omega,by dsimp only;omega,by dsimp only;omega,by dsimp only;omega⟩
end Go.Proofs.Ytmfkjilndpchbaa.Df
