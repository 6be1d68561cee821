import Derived.Test.YtmfkjilndpchbaaAut0
namespace Go.Proofs.Ytmfkjilndpchbaa.Df
open Go Go.Ab Go.Pu
theorem mul1 {m:Int}(h1:1≤m)(h2:m≤16):P.J6 (IntKind.u64.wrap ((1:Nat):Int)) (IntKind.u64.wrap m)=some (0,m):=by
 obtain⟨k,rfl⟩:=Int.eq_ofNat_of_zero_le (show 0≤m by omega)
 have h3:k≤16:=by omega
 have h4:1≤k:=by omega
 clear h1 h2
 revert k
 decide
theorem cpy_step {v:Int}{M n:Nat}(h1:1≤n)(h2:n≤M):cpy (List.replicate n v++List.replicate (M-n) 0) (n:Int) (List.replicate n v)=List.replicate (n+min n (M-n)) v++List.replicate (M-(n+min n (M-n))) 0:=by
 unfold cpy
 simp only [Int.toNat_natCast,List.length_append,List.length_replicate]
 rw [show n+(M-n)-n=M-n by omega,List.take_append_of_le_length (by simp),List.take_of_length_le (by simp),List.take_replicate,List.drop_append,List.drop_eq_nil_of_le (by simp),List.nil_append,List.drop_replicate,List.length_replicate,←List.append_assoc,List.replicate_append_replicate]
 congr 2<;>omega
theorem jU {m v:Int}(h1:1≤m)(h2:m≤16){φ:Nat}(hφ:100≤φ):P.D0 φ [v] m=some (List.replicate m.toNat v):=by
 refine Ok.eq ?_
 unfold P.D0
 rw [if_neg (by omega),show(([v]:List Int).length:Int)=((1:Nat):Int) from rfl,mul1 h1 h2,Option.bind_some]
 dsimp only
 rw [if_neg (by simp;omega),show Pu.W m=m by rw [aN],fl (by omega) (by omega) (by omega),Option.bind_some]
 have hm:((m.toNat:Nat):Int)=m:=by omega
 refine Ok.bind (bF (fun s=>∃n:Nat,1≤n∧n≤m.toNat∧s=(List.replicate n v++List.replicate (m.toNat-n) 0,(n:Int))) (fun s=>(100-s.2).toNat) (Q:=fun r=>∃s,r= .out s∧s.1=List.replicate m.toNat v) ⟨1,by omega,by omega,?_⟩ (fun s hs=>?_) ?_) fun r hr=>?_
 ·refine Prod.ext ?_ ?_
  ·dsimp only
   unfold cpy
   simp only [List.length_replicate,List.length_cons,List.length_nil,List.drop_replicate,Int.toNat_zero,List.take_zero,List.nil_append,List.replicate_one]
   rw [List.take_of_length_le (by simp;omega)]
   congr 2;omega
  ·dsimp only
   unfold cpn
   simp;omega
 ·obtain⟨n,n1,n2,rfl⟩:=hs
  have hl:((List.replicate n v++List.replicate (m.toNat-n) (0:Int)).length:Int)=m:=by simp;omega
  unfold P.D0.b0
  dsimp only
  refine .ite (fun hlt=>?_) fun hge=>.some ⟨_,rfl,?_⟩
  ·rw [hl] at hlt
   rw [cZ (by omega) (by rw [hl];omega) (Int.le_refl _),Option.bind_some,cZ (by omega) (by omega) (by rw [hl];omega),Option.bind_some]
   have hx:((List.replicate n v++List.replicate (m.toNat-n) (0:Int)).take (n:Int).toNat).drop (0:Int).toNat=List.replicate n v:=by
    rw [Int.toNat_natCast,List.take_append_of_le_length (by simp),List.take_of_length_le (by simp)];rfl
   rw [hx,cpy_step n1 n2]
   have hc:cpn (List.replicate n v++List.replicate (m.toNat-n) (0:Int)) (n:Int) (List.replicate n v)=((min n (m.toNat-n):Nat):Int):=by
    unfold cpn
    simp only [List.length_append,List.length_replicate,Int.toNat_natCast]
    congr 2;omega
   rw [hc,aN (by omega) (by omega)]
   refine .some ⟨⟨n+min n (m.toNat-n),by omega,by omega,Prod.ext rfl (by dsimp only;omega)⟩,?_⟩
   dsimp only;omega
  ·rw [hl] at hge
   have:n=m.toNat:=by omega
   subst this
   simp
 ·dsimp only
  unfold cpn
  simp;omega
 ·obtain⟨s,rfl,e⟩:=hr
  exact .some e
theorem cN (xs:List Int)(b:Int)(hl:(xs.length:Int)≤1000000):P.C4 xs b=some (decide (b∈xs)):=by
 refine Ok.eq ?_
 unfold P.C4 P.E6
 rw [bN (by omega),Option.bind_some]
 refine Ok.bind (Q:=fun r=>0≤r↔b∈xs) (Ok.bind (cG (fun i (_:Unit)=>∀j:Nat,j<i→xs[j]? ≠some b) (Q:=fun r=>r.cs (fun _=>b∉xs) (fun r=>0≤r∧b∈xs)) (fun j hj=>by omega) (fun i x s hx hs=>?_) fun s hs=>?_) fun r hr=>?_) fun r hr=>.some (decide_eq_decide.2 hr)
 ·obtain⟨rfl,hi⟩:=ce hx
  unfold P.E6.b0
  rw [aG (by omega) (by omega),Option.bind_some]
  refine .ite (fun e=>.some ⟨by omega,by rw [e];exact ef (by omega) (by omega)⟩) fun e=>.some fun j hj=>?_
  rcases(by omega:j<i∨j=i) with q|rfl
  ·exact hs j q
  ·rw [gE (by omega)];intro q;cases q;exact e rfl
 ·rw [ba] at hs
  intro hb
  obtain⟨i,hi⟩:=List.getElem?_of_mem hb
  exact hs i (by have:=(List.getElem?_eq_some_iff.1 hi).1;omega) hi
 ·cases r with
  | out s=>exact .some ⟨fun q=>absurd q (by omega),fun q=>absurd q hr⟩
  | rt r=>exact .some ⟨fun _=>hr.2,fun _=>hr.1⟩
structure FV (f:Ty.K4)(N m:Int):Prop where
 n1:1≤N
 n2:N≤201
 m1:1≤m
 m2:m≤16
 dim:Dim f.next_ N m
 acc:(f.accept.length:Int)=N
 tg:∀s c,0≤s→s<N→0≤c→c<m→0≤el2 f.next_ s c∧el2 f.next_ s c<N
 pl:(f.prev.length:Int)=m
 pr:∀c,0≤c→c<m→((el f.prev c).length:Int)=N∧∀t,0≤t→t<N→((el (el f.prev c) t).length:Int)≤N∧∀s,s∈el (el f.prev c) t↔0≤s∧s<N∧el2 f.next_ s c=t
theorem clone_eq (xs:List Int)(hl:(xs.length:Int)≤1000000):P.F4 xs=some xs:=by
 unfold P.F4
 rw [bk (by simp;omega),Option.bind_some,List.nil_append]
theorem complete_ok {d:Ty.J5}{n m:Int}(h:VD d n m){φ:Nat}(hφ:100≤φ):Ok (P.C5 φ d) fun f=>FV f (n+1) m∧f.accept=d.Accept++ [-1]∧
 (∀s c,0≤s→s<n→0≤c→c<m→el2 f.next_ s c=if 0≤el2 d.Next s c then el2 d.Next s c else n)∧∀c,0≤c→c<m→el2 f.next_ n c=n:=by
 have hn:=h.dim.1
 have n1:=h.n1;have n2:=h.n2;have m1:=h.m1;have m2:=h.m2;have ha:=h.acc
 have hd0:=h.dim.2 0 (by omega) (by omega)
 unfold P.C5
 rw [aG (by omega) (by omega),Option.bind_some,clone_eq _ (by omega),Option.bind_some,bk (by simp;omega),Option.bind_some,hn,hd0,show Pu.W (n+1)=n+1 by rw [aN],bN (by omega),Option.bind_some]
 refine Ok.bind (aM (fun i (s:List (List Int))=>s.length=i∧∀j:Int,0≤j→j<i→((el s j).length:Int)=m∧∀c,0≤c→c<m→el2 s j c=if j<n then(if 0≤el2 d.Next j c then el2 d.Next j c else n) else n)
  (Q:=fun s=>(s.length:Int)=n+1∧∀j:Int,0≤j→j<n+1→((el s j).length:Int)=m∧∀c,0≤c→c<m→el2 s j c=if j<n then(if 0≤el2 d.Next j c then el2 d.Next j c else n) else n)
  ⟨rfl,fun j a b=>by omega⟩ (fun i x s hx hs=>?_) fun s hs=>?_) fun nx hnx=>?_
 ·obtain⟨rfl,hi⟩:=ce hx
  obtain⟨a1,a2⟩:=hs
  unfold P.C5.b0
  rw [hd0,jU m1 m2 hφ,Option.bind_some,hn]
  have hrow:Ok (if(i:Int)<n then(Pu.ix d.Next i).bind fun x7=>(Pu.forP P.C5.b1 0 x7 (List.replicate m.toNat n)).bind fun y3=>some y3 else some (List.replicate m.toNat n))
   fun r=>(r.length:Int)=m∧∀c,0≤c→c<m→el r c=if(i:Int)<n then(if 0≤el2 d.Next i c then el2 d.Next i c else n) else n:=by
   refine .ite (fun hlt=>?_) fun hge=>.some ⟨by simp;omega,fun c c0 c1=>by rw [if_neg hge,eR c0 (by omega)]⟩
   have hdi:=h.dim.2 i (by omega) hlt
   rw [aG (by omega) (by omega),Option.bind_some]
   refine Ok.bind (aM (fun k (s:List Int)=>(s.length:Int)=m∧∀c,0≤c→c<m→el s c=if c<(k:Int) then(if 0≤el2 d.Next i c then el2 d.Next i c else n) else n)
    (Q:=fun s=>(s.length:Int)=m∧∀c,0≤c→c<m→el s c=if 0≤el2 d.Next i c then el2 d.Next i c else n) ⟨by simp;omega,fun c c0 c1=>by rw [if_neg (by omega),eR c0 (by omega)]⟩ (fun k y q hy hq=>?_) fun q hq=>?_) fun q hq=>.some ⟨hq.1,fun c c0 c1=>by rw [if_pos hlt];exact hq.2 c c0 c1⟩
   ·obtain⟨b1,b2⟩:=hq
    have hk:=(List.getElem?_eq_some_iff.1 hy).1
    have hye:y=el2 d.Next i k:=(aT hy).symm
    unfold P.C5.b1
    have hcase:Ok (if 0≤y then(Pu.ix q (k:Int)).bind fun x9=>some (Pu.st q (k:Int) y) else some q) fun r=>(r.length:Int)=m∧∀c,0≤c→c<m→el r c=if c=(k:Int) then(if 0≤y then y else n) else el q c:=by
     refine .ite (fun hp=>?_) fun hp=>.some ⟨b1,fun c c0 c1=>?_⟩
     ·rw [aG (by omega) (by omega),Option.bind_some]
      refine .some ⟨by rw [bj];exact b1,fun c c0 c1=>?_⟩
      rw [cF (by omega) (by omega) c0,if_pos hp]
     ·split
      ·rename_i e;rw [e,b2 k (by omega) (by omega),if_neg (by omega)]
      ·rfl
    refine hcase.bind fun r hr=>.some ⟨hr.1,fun c c0 c1=>?_⟩
    rw [hr.2 c c0 c1]
    by_cases e:c=(k:Int)
    ·rw [if_pos e,e,hye,if_pos (show(k:Int)<((k+1:Nat):Int) by omega)]
    ·rw [if_neg e,b2 c c0 c1]
     by_cases e2:c<(k:Int)
     ·rw [if_pos e2,if_pos (show c<((k+1:Nat):Int) by omega)]
     ·rw [if_neg e2,if_neg (show ¬c<((k+1:Nat):Int) by omega)]
   ·refine⟨hq.1,fun c c0 c1=>?_⟩
    rw [hq.2 c c0 c1,if_pos (by omega)]
  refine hrow.bind fun r hr=>?_
  rw [bk (by simp;omega),Option.bind_some]
  refine .some ⟨by simp [a1],fun j j0 j1=>?_⟩
  rcases(by omega:j<(i:Int)∨j=(i:Int)) with e|rfl
  ·have e2:el (s++ [r]) j=el s j:=bg (by omega)
   unfold el2;rw [e2];exact a2 j j0 e
  ·have:el (s++ [r]) (i:Int)=r:=aT (by rw [←a1];simp)
   unfold el2;rw [this];exact hr
 ·rw [ba] at hs
  exact⟨by omega,fun j j0 j1=>hs.2 j j0 (by omega)⟩
 ·obtain⟨l1,l2⟩:=hnx
  have htg:∀s c,0≤s→s<n+1→0≤c→c<m→0≤el2 nx s c∧el2 nx s c<n+1:=fun s c s0 s1 c0 c1=>by
   rw [(l2 s s0 s1).2 c c0 c1]
   split
   ·rename_i hlt
    have:=h.t1 s c s0 hlt c0 c1
    split<;>omega
   ·omega
  rw [bN (by omega),Option.bind_some]
  refine Ok.bind (aM (fun i (s:List (List (List Int)))=>s.length=i∧∀c:Int,0≤c→c<i→((el s c).length:Int)=n+1∧∀t,0≤t→t<n+1→((el (el s c) t).length:Int)≤n+1∧∀z,z∈el (el s c) t↔0≤z∧z<n+1∧el2 nx z c=t)
   (Q:=fun s=>(s.length:Int)=m∧∀c:Int,0≤c→c<m→((el s c).length:Int)=n+1∧∀t,0≤t→t<n+1→((el (el s c) t).length:Int)≤n+1∧∀z,z∈el (el s c) t↔0≤z∧z<n+1∧el2 nx z c=t) ⟨rfl,fun c a b=>by omega⟩ (fun i x s hx hs=>?_) fun s hs=>?_) fun pv hpv=>.some ⟨⟨by omega,by omega,m1,m2,⟨l1,fun i i0 i1=>(l2 i i0 i1).1⟩,by simp;omega,htg,hpv.1,hpv.2⟩,rfl,fun s c s0 s1 c0 c1=>?_,fun c c0 c1=>?_⟩
  ·obtain⟨rfl,hi⟩:=ce hx
   obtain⟨a1,a2⟩:=hs
   unfold P.C5.b2
   rw [hn,show Pu.W (n+1)=n+1 by rw [aN],fl (by omega) (by omega) (by omega),Option.bind_some,bk (by simp;omega),Option.bind_some,bN (by omega),Option.bind_some]
   refine Ok.bind (aM (fun k (p:List (List (List Int)))=>p.length=i+1∧(∀c:Int,0≤c→c<i→el p c=el s c)∧((el p i).length:Int)=n+1∧∀t,0≤t→t<n+1→((el (el p i) t).length:Int)≤k∧∀z,z∈el (el p i) t↔0≤z∧z<(k:Int)∧el2 nx z i=t)
    (Q:=fun p=>p.length=i+1∧(∀c:Int,0≤c→c<i→el p c=el s c)∧((el p i).length:Int)=n+1∧∀t,0≤t→t<n+1→((el (el p i) t).length:Int)≤n+1∧∀z,z∈el (el p i) t↔0≤z∧z<n+1∧el2 nx z i=t) ?_ (fun k y p hy hp=>?_) fun p hp=>?_) fun p hp=>.some ⟨hp.1,fun c c0 c1=>?_⟩
   ·have hlast:el (s++ [List.replicate (n+1).toNat ([]:List Int)]) (i:Int)=List.replicate (n+1).toNat []:=aT (by rw [←a1];simp)
    refine⟨by simp [a1],fun c c0 c1=>bg (by omega),by rw [hlast];simp;omega,fun t t0 t1=>?_⟩
    rw [hlast,eR t0 (by omega)]
    exact⟨by simp,fun z=>⟨fun q=>by simp at q,fun q=>by omega⟩⟩
   ·obtain⟨rfl,hk⟩:=ce hy
    obtain⟨b1,b2,b3,b4⟩:=hp
    have ht:=htg k i (by omega) (by omega) (by omega) hi
    have hb4:=b4 (el2 nx k i) ht.1 ht.2
    unfold P.C5.b3
    have e1:Pu.ix nx (k:Int)=some (el nx k):=aG (by omega) (by omega)
    have e2:Pu.ix (el nx (k:Int)) (i:Int)=some (el2 nx k i):=aG (by omega) (by rw [(l2 k (by omega) (by omega)).1];exact hi)
    have e3:Pu.ix p (i:Int)=some (el p i):=aG (by omega) (by omega)
    have e4:Pu.ix (el p (i:Int)) (el2 nx k i)=some (el (el p i) (el2 nx k i)):=aG ht.1 (by omega)
    rw [e1,Option.bind_some,e2,Option.bind_some,e3,Option.bind_some,Option.bind_some,e4,Option.bind_some,bk (by simp;omega),Option.bind_some,Option.bind_some]
    refine .some ⟨by rw [bj];exact b1,fun c c0 c1=>?_,?_,fun t t0 t1=>?_⟩
    ·rw [jI (by omega) (by omega) c0 (by omega)];exact b2 c c0 c1
    ·rw [dU (by omega) (by omega),bj];exact b3
    ·rw [dU (by omega) (by omega),cF ht.1 (by omega) t0]
     have hb:=b4 t t0 t1
     by_cases e:t=el2 nx k i
     ·rw [if_pos e]
      refine⟨by simp;omega,fun z=>?_⟩
      rw [List.mem_append,List.mem_singleton,hb4.2]
      constructor
      ·rintro(⟨z0,z1,z2⟩|rfl)
       ·exact⟨z0,by omega,by omega⟩
       ·exact⟨by omega,by omega,e.symm⟩
      ·rintro⟨z0,z1,z2⟩
       rcases(by omega:z<(k:Int)∨z=(k:Int)) with q|q
       ·exact .inl ⟨z0,q,by omega⟩
       ·exact .inr q
     ·rw [if_neg e]
      refine⟨by omega,fun z=>?_⟩
      rw [hb.2]
      constructor
      ·rintro⟨z0,z1,z2⟩;exact⟨z0,by omega,z2⟩
      ·rintro⟨z0,z1,z2⟩
       rcases(by omega:z<(k:Int)∨z=(k:Int)) with q|rfl
       ·exact⟨z0,q,z2⟩
       ·exact absurd z2.symm e
   ·obtain⟨b1,b2,b3,b4⟩:=hp
    rw [ba] at b4
    refine⟨b1,b2,b3,fun t t0 t1=>?_⟩
    obtain⟨c1,c2⟩:=b4 t t0 t1
    refine⟨by omega,fun z=>?_⟩
    rw [c2,show(((nx.length:Int).toNat:Nat):Int)=n+1 by omega]
   ·rcases(by omega:c<(i:Int)∨c=(i:Int)) with e|rfl
    ·rw [hp.2.1 c c0 e];exact a2 c c0 e
    ·exact hp.2.2
  ·rw [ba] at hs
   exact⟨by omega,fun c c0 c1=>hs.2 c c0 (by omega)⟩
  ·rw [(l2 s s0 (by omega)).2 c c0 c1,if_pos s1]
  ·rw [(l2 n (by omega) (by omega)).2 c c0 c1,if_neg (by omega)]
end Go.Proofs.Ytmfkjilndpchbaa.Df
