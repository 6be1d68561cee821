import Derived.Test.YtmfkjilndpchbaaAp1
namespace Go.Proofs.Ytmfkjilndpchbaa.Ap
open Go Go.Ab Go.Pu Go.Proofs.Ytmfkjilndpchbaa.Df
theorem equalw_ok (a b:List Int)(ha:a.length≤1000000):Ok (P.E0 a b) fun r=>r=decide (a=b):=by
 unfold P.E0
 refine .ite (fun h=>.some ?_) fun h=>?_
 ·refine(decide_eq_false fun e=>?_).symm
  subst e;exact h rfl
 ·rw [bN (by omega),Option.bind_some]
  refine Ok.bind (cG (fun i (_:Unit)=>∀j:Int,0≤j→j<i→el a j=el b j) (Q:=fun r=>r.cs (fun _=>∀j:Int,0≤j→j<a.length→el a j=el b j) (fun r=>r=false∧a≠b)) (fun j h1 h2=>by omega) (fun i x s hx hs=>?_) fun s hs=>?_) fun r hr=>?_
  ·obtain⟨rfl,hi⟩:=ce hx
   unfold P.E0.b0
   rw [aG (by omega) (by omega),Option.bind_some,aG (by omega) (by omega),Option.bind_some]
   refine .ite (fun hne=>.some ⟨rfl,fun e=>hne (by rw [e])⟩) fun he=>.some fun j h1 h2=>?_
   rcases(by omega:j<(i:Int)∨j=(i:Int)) with q|rfl
   ·exact hs j h1 q
   ·exact Classical.byContradiction fun q=>he q
  ·rw [ba] at hs
   exact fun j h1 h2=>hs j h1 (by omega)
  ·cases r with
   | out s=>exact .some (decide_eq_true (ext_el (by omega) hr)).symm
   | rt r=>exact .some (by rw [hr.1];exact(decide_eq_false hr.2).symm)
theorem indexf_ok {sets:List (List Int)}{x:List Int}(hl:sets.length≤1000)(hs:∀L∈sets,L.length≤1000000):Ok (P.F7 sets x) fun k=>k= -1∨(0≤k∧k<sets.length∧el sets k=x):=by
 unfold P.F7
 rw [bN (by omega),Option.bind_some]
 refine Ok.bind (cG (fun _ _=>True) (Q:=fun r=>r.cs (fun _=>True) (fun k:Int=>0≤k∧k<sets.length∧el sets k=x)) trivial (fun i y s hy _=>?_) fun _ _=>trivial) fun r hr=>?_
 ·obtain⟨rfl,hi⟩:=ce hy
  unfold P.F7.b0 P.J0
  rw [aG (by omega) (by omega),Option.bind_some]
  refine Ok.bind (Ok.bind (equalw_ok _ _ (hs _ (ef (by omega) (by omega)))) fun b hb=>.some hb) fun b hb=>.ite (fun h=>.some ?_) fun h=>.some trivial
  subst hb
  exact⟨by omega,hi,by simpa using h⟩
 ·cases r with
  | out s=>exact .some (.inl rfl)
  | rt r=>exact .some (.inr hr)
def Rw (nx:Nx)(sets:List (List Int))(L:List Int)(c v:Int):Prop:=
 (v= -1∧∀s∈L,∀t,¬Ed nx s c t)∨(0≤v∧v<sets.length∧∀t,t∈el sets v↔∃s∈L,∃t0,Ed nx s c t0∧Wy nx t0 [] t)
theorem Rw.push {nx:Nx}{sets:List (List Int)}{L x:List Int}{c v:Int}(h:Rw nx sets L c v):Rw nx (sets++ [x]) L c v:=by
 rcases h with h|⟨a,b,d⟩
 ·exact .inl h
 ·exact .inr ⟨a,by simp;omega,by rw [bh a b];exact d⟩
structure SI (nx:Nx)(start:Int)(sets:List (List Int)):Prop where
 pos:0<sets.length
 len:∀L∈sets,L.length≤nx.length
 rg:∀L∈sets,∀s∈L,0≤s∧s<nx.length
 ini:∀t,t∈el sets 0↔Wy nx start [] t
structure DI (nx:Nx)(start stop m:Int)(sets:List (List Int))(acc:List Int)(nxt:List (List Int))(i:Int):Prop extends SI nx start sets where
 i0:0≤i
 i1:i≤sets.length
 al:(acc.length:Int)=i
 nl:(nxt.length:Int)=i
 ac:∀j,0≤j→j<i→el acc j=if stop∈el sets j then 0 else -1
 rl:∀j,0≤j→j<i→((el nxt j).length:Int)=m
 rw_:∀j,0≤j→j<i→∀c,0≤c→c<m→Rw nx sets (el sets j) c (el2 nxt j c)
theorem DI.push {nx:Nx}{start stop m i:Int}{sets:List (List Int)}{acc:List Int}{nxt:List (List Int)}{x:List Int}(h:DI nx start stop m sets acc nxt i)(hx:x.length≤nx.length)(hr:∀s∈x,0≤s∧s<nx.length):DI nx start stop m (sets++ [x]) acc nxt i:=by
 have hp:=h.pos
 have hi:=h.i1
 refine⟨⟨by simp,fun L hL=>?_,fun L hL=>?_,fun t=>?_⟩,h.i0,by simp;omega,h.al,h.nl,fun j j0 j1=>?_,h.rl,fun j j0 j1 c c0 c1=>?_⟩
 ·rcases List.mem_append.1 hL with hL|hL
  ·exact h.len L hL
  ·rw [List.mem_singleton] at hL;subst hL;exact hx
 ·rcases List.mem_append.1 hL with hL|hL
  ·exact h.rg L hL
  ·rw [List.mem_singleton] at hL;subst hL;exact hr
 ·rw [bh (by omega) (by omega)];exact h.ini t
 ·rw [bh j0 (by omega)];exact h.ac j j0 j1
 ·rw [bh j0 (by omega)];exact(h.rw_ j j0 j1 c c0 c1).push
theorem to_ok {a:Ty.G3}{nx:Nx}{B:Nat}(ha:a.next_=nx)(hv:NV nx B)(hB:B≤1000000){L:List Int}(hl:L.length≤nx.length)(hL:∀s∈L,0≤s∧s<nx.length)(c:Int):
 Ok (forP (P.B8.b2 a c) 0 L []) fun y=>y.length≤10000000000∧∀t,t∈y↔∃s∈L,Ed nx s c t:=by
 have hn:=hv.n
 refine aM (fun i (y:List Int)=>y.length≤i*B∧∀t,t∈y↔∃s∈L.take i,Ed nx s c t) ⟨by simp,by simp⟩ (fun i s y hs hy=>?_) fun y hy=>?_
 ·obtain⟨y1,y2⟩:=hy
  have hi:=(List.getElem?_eq_some_iff.1 hs).1
  have hsr:=hL s (List.mem_of_getElem? hs)
  have hrow:=hv.row s hsr.1 hsr.2
  have hiB:i*B≤10000*1000000:=Nat.mul_le_mul (by omega) hB
  unfold P.B8.b2
  rw [ha,aG hsr.1 hsr.2,Option.bind_some]
  refine Ok.bind (aM (fun k (z:List Int)=>z.length≤y.length+k∧∀t,t∈z↔t∈y∨(⟨c,t⟩:Ty.C9)∈(el nx s).take k) (Q:=fun z=>z.length≤(i+1)*B∧∀t,t∈z↔t∈y∨Ed nx s c t) ⟨by omega,by simp⟩ (fun k e z he hz=>?_) fun z hz=>?_) fun z hz=>.some ⟨hz.1,fun t=>?_⟩
  ·obtain⟨z1,z2⟩:=hz
   have hk:=(List.getElem?_eq_some_iff.1 he).1
   unfold P.B8.b3
   refine Ok.bind (Q:=fun z'=>z'.length≤y.length+(k+1)∧∀t,t∈z'↔t∈y∨(⟨c,t⟩:Ty.C9)∈(el nx s).take (k+1)) (.ite (fun hb=>?_) fun hb=>.some ⟨by omega,fun t=>?_⟩) fun z' h=>.some h
   ·rw [bk (by simp only [List.length_singleton];omega),Option.bind_some]
    refine .some ⟨by simp;omega,fun t=>?_⟩
    rw [List.mem_append,z2,List.take_add_one,he,Option.toList_some,List.mem_append,List.mem_singleton,List.mem_singleton,or_assoc]
    refine or_congr Iff.rfl (or_congr Iff.rfl ?_)
    obtain⟨b,u⟩:=e
    simp only at hb
    simp [hb]
   ·rw [z2,List.take_add_one,he,Option.toList_some,List.mem_append,List.mem_singleton]
    refine or_congr Iff.rfl ⟨.inl,fun h=>h.elim id fun h=>?_⟩
    rw [←h] at hb
    exact absurd rfl hb
  ·rw [List.take_length] at hz
   refine⟨by rw [Nat.add_mul];omega,fun t=>?_⟩
   rw [hz.2]
   exact or_congr Iff.rfl ⟨fun h=>⟨hsr.1,hsr.2,h⟩,fun h=>h.2.2⟩
  ·rw [hz.2,y2,List.take_add_one,hs,Option.toList_some]
   simp only [List.mem_append,List.mem_singleton]
   constructor
   ·rintro(⟨u,hu,h⟩|h)
    ·exact⟨u,.inl hu,h⟩
    ·exact⟨s,.inr rfl,h⟩
   ·rintro⟨u,hu|rfl,h⟩
    ·exact .inl ⟨u,hu,h⟩
    ·exact .inr h
 ·rw [List.take_length] at hy
  have hiB:L.length*B≤10000*1000000:=Nat.mul_le_mul (by omega) hB
  exact⟨by omega,hy.2⟩
theorem sets_ok {a:Ty.G3}{nx:Nx}{B:Nat}(ha:a.next_=nx)(hv:NV nx B)(hB:B≤1000000){start stop m:Int}(h0:0≤start)(h1:start<nx.length)(hm:a.g.Terms=m)(m1:1≤m)(m2:m≤16){φ:Nat}(hφ:100000000000≤φ):
 Ok (P.B8 φ a start stop) fun r=>r.2=true→∃sets acc nxt,r.1=⟨0,acc,nxt⟩∧sets.length≤200∧DI nx start stop m sets acc nxt sets.length:=by
 have hn:=hv.n
 unfold P.B8
 refine(gh ha hv hB (l:=[start]) (fun x hx=>by rw [List.mem_singleton] at hx;subst hx;exact⟨h0,h1⟩) (by simp) hφ).bind fun x1 ⟨_,b2,b3,b4⟩=>?_
 refine Ok.bind (bF (fun s=>s.1.length≤200∧DI nx start stop m s.1 s.2.1 s.2.2.1 s.2.2.2) (fun s=>(300-s.2.2.2).toNat)
  (Q:=fun r=>(∃s,r= .out s∧s.1.length≤200∧DI nx start stop m s.1 s.2.1 s.2.2.1 s.1.length)∨∃d,r= .rt (d,false)) ⟨by simp,⟨⟨by simp,?_,?_,?_⟩,by simp,by simp,rfl,rfl,fun j a b=>by dsimp only at b;omega,fun j a b=>by dsimp only at b;omega,fun j a b=>by dsimp only at b;omega⟩⟩ (fun s hs=>?_) (by dsimp only;omega)) fun r hr=>?_
 ·intro L hL;rw [List.mem_singleton] at hL;subst hL;exact b2
 ·intro L hL;rw [List.mem_singleton] at hL;subst hL;exact b3
 ·intro t
  show t∈x1↔_
  rw [b4];simp
 ·obtain⟨sets,acc,nxt,i⟩:=s
  obtain⟨s1,hs⟩:=hs
  dsimp only at s1 hs
  have i0:=hs.i0;have i1:=hs.i1
  unfold P.B8.b0
  dsimp only
  refine .ite (fun hlt=>?_) fun hge=>.some (.inl ⟨_,rfl,s1,by
   dsimp only
   have:i=(sets.length:Int):=by omega
   rw [←this];exact hs⟩)
  rw [hm,bN (by omega),Option.bind_some]
  refine Ok.bind (aM (fun k (q:List (List Int)×List Int)=>q.1.length≤200+k∧i<q.1.length∧DI nx start stop m q.1 acc nxt i∧q.2.length=k∧∀c:Int,0≤c→c<k→Rw nx q.1 (el q.1 i) c (el q.2 c))
   (Q:=fun q=>q.1.length≤216∧i<q.1.length∧DI nx start stop m q.1 acc nxt i∧(q.2.length:Int)=m∧∀c:Int,0≤c→c<m→Rw nx q.1 (el q.1 i) c (el q.2 c)) ⟨by dsimp only;omega,hlt,hs,rfl,fun c c0 c1=>by omega⟩ (fun k c q hc hq=>?_) fun q hq=>?_) fun q hq=>?_
  ·obtain⟨rfl,hk⟩:=ce hc
   obtain⟨qs,qr⟩:=q
   obtain⟨q1,q2,q3,q4,q5⟩:=hq
   dsimp only at q1 q2 q3 q4 q5
   have hmem:el qs i∈qs:=ef i0 q2
   unfold P.B8.b1
   dsimp only
   rw [aG i0 q2,Option.bind_some]
   refine(to_ok ha hv hB (q3.len _ hmem) (q3.rg _ hmem) k).bind fun y ⟨y1,y2⟩=>.ite (fun hz=>?_) fun hz=>?_
   ·rw [bk (by simp only [List.length_singleton];omega),Option.bind_some]
    refine .some ⟨by dsimp only;omega,q2,q3,by simp [q4],fun c c0 c1=>?_⟩
    dsimp only
    rcases(by omega:c<(k:Int)∨c=(k:Int)) with e|rfl
    ·rw [bh c0 (by omega)];exact q5 c c0 e
    ·rw [←q4,show el (qr++ [-1]) (qr.length:Int)= -1 from aT (by simp)]
     refine .inl ⟨rfl,fun s hs t ht=>?_⟩
     have:t∈y:=(y2 t).2 ⟨s,hs,q4▸ht⟩
     rw [List.length_eq_zero_iff.1 (by omega:y.length=0)] at this
     cases this
   ·refine(gh ha hv hB (l:=y) (fun t ht=>by
     obtain⟨s,_,he⟩:=(y2 t).1 ht
     exact(hv.to _ _ _ he).2) (by omega) hφ).bind fun x ⟨_,c2,c3,c4⟩=>?_
    have hx:∀t,t∈x↔∃s∈el qs i,∃t0,Ed nx s k t0∧Wy nx t0 [] t:=fun t=>by
     rw [c4]
     constructor
     ·rintro⟨t0,h1,h2⟩
      obtain⟨s,hs,h3⟩:=(y2 t0).1 h1
      exact⟨s,hs,t0,h3,h2⟩
     ·rintro⟨s,hs,t0,h3,h2⟩
      exact⟨t0,(y2 t0).2 ⟨s,hs,h3⟩,h2⟩
    refine(indexf_ok (by omega) fun L hL=>by have:=q3.len L hL;omega).bind fun v hv2=>?_
    refine Ok.bind (Q:=fun z=>z.1.length≤200+(k+1)∧i<z.1.length∧DI nx start stop m z.1 acc nxt i∧(∀c:Int,0≤c→c<k→Rw nx z.1 (el z.1 i) c (el qr c))∧Rw nx z.1 (el z.1 i) k z.2) (.ite (fun hneg=>?_) fun hnn=>.some ?_) fun z ⟨z1,z2,z3,z4,z5⟩=>?_
    ·rw [bk (by simp only [List.length_singleton];omega),Option.bind_some]
     refine .some ⟨by simp;omega,by simp;omega,q3.push c2 c3,fun c c0 c1=>?_,?_⟩
     ·dsimp only
      rw [bh i0 q2];exact(q5 c c0 c1).push
     ·dsimp only
      rw [bh i0 q2]
      exact .inr ⟨by omega,by simp;omega,by rw [show el (qs++ [x]) (qs.length:Int)=x from aT (by simp)];exact hx⟩
    ·rcases hv2 with rfl|⟨v0,v1,v2⟩
     ·exact absurd (by decide:(-1:Int)<0) hnn
     ·exact⟨by dsimp only;omega,q2,q3,q5,.inr ⟨v0,v1,by dsimp only;rw [v2];exact hx⟩⟩
    ·rw [bk (by simp only [List.length_singleton];omega),Option.bind_some]
     refine .some ⟨z1,z2,z3,by simp [q4],fun c c0 c1=>?_⟩
     dsimp only
     rcases(by omega:c<(k:Int)∨c=(k:Int)) with e|rfl
     ·rw [bh c0 (by omega)];exact z4 c c0 e
     ·rw [show el (qr++ [z.2]) (k:Int)=z.2 from aT (by simp [←q4])]
      exact z5
  ·rw [ba] at hq
   obtain⟨q1,q2,q3,q4,q5⟩:=hq
   exact⟨by omega,q2,q3,by omega,fun c c0 c1=>q5 c c0 (by omega)⟩
  ·obtain⟨qs,qr⟩:=q
   obtain⟨q1,q2,q3,q4,q5⟩:=hq
   dsimp only at q1 q2 q3 q4 q5
   have hal:=q3.al;have hnl:=q3.nl
   have hmem:el qs i∈qs:=ef i0 q2
   dsimp only
   rw [bk (by simp only [List.length_singleton];omega),Option.bind_some,aG i0 q2,Option.bind_some,cN _ _ (by have:=q3.len _ hmem;omega),Option.bind_some]
   refine Ok.bind (Q:=fun z=>z=acc++ [if stop∈el qs i then 0 else -1]) (.ite (fun h=>?_) fun h=>?_) fun z hz=>?_
   ·rw [bk (by simp only [List.length_singleton];omega),Option.bind_some]
    exact .some (by rw [if_pos (by simpa using h)])
   ·rw [bk (by simp only [List.length_singleton];omega),Option.bind_some]
    exact .some (by rw [if_neg (by simpa using h)])
   ·subst hz
    refine .ite (fun _=>.some (.inr ⟨_,rfl⟩)) fun hle=>?_
    rw [aN]
    refine .some ⟨⟨by dsimp only;omega,?_⟩,by dsimp only;omega⟩
    dsimp only
    refine⟨q3.toSI,by omega,by omega,by simp;omega,by simp;omega,fun j j0 j1=>?_,fun j j0 j1=>?_,fun j j0 j1 c c0 c1=>?_⟩
    ·rcases(by omega:j<i∨j=i) with e|rfl
     ·rw [bh j0 (by omega)];exact q3.ac j j0 e
     ·generalize (if stop∈el qs j then(0:Int) else -1)=z
      rw [←hal];exact aT (by simp)
    ·rcases(by omega:j<i∨j=i) with e|rfl
     ·rw [bh j0 (by omega)];exact q3.rl j j0 e
     ·rw [←hnl,show el (nxt++ [qr]) (nxt.length:Int)=qr from aT (by simp)];exact q4
    ·rcases(by omega:j<i∨j=i) with e|rfl
     ·rw [el2,bh j0 (by omega)];exact q3.rw_ j j0 e c c0 c1
     ·have:el (nxt++ [qr]) j=qr:=by rw [←hnl];exact aT (by simp)
      rw [el2,this];exact q5 c c0 c1
 ·rcases hr with⟨s,rfl,s1,hs⟩|⟨d,rfl⟩
  ·exact .some fun _=>⟨s.1,s.2.1,s.2.2.1,rfl,s1,hs⟩
  ·exact .some fun h=>by cases h
theorem dfa_ok {a:Ty.G3}{nx:Nx}{B:Nat}(ha:a.next_=nx)(hv:NV nx B)(hB:B≤1000000){start stop m:Int}(h0:0≤start)(h1:start<nx.length)(hm:a.g.Terms=m)(m1:1≤m)(m2:m≤16){φ:Nat}(hφ:100000000000≤φ):
 Ok (P.B8 φ a start stop) fun r=>r.2=true→∃k,VD r.1 k m∧∀w,Wd w m→(0≤tell r.1 w↔Wy nx start w stop):=by
 refine(sets_ok ha hv hB h0 h1 hm m1 m2 hφ).mono fun r hr h=>?_
 obtain⟨sets,acc,nxt,e,s1,hs⟩:=hr h
 rw [e]
 have hp:=hs.pos
 have hnl:=hs.nl
 refine⟨sets.length,⟨by omega,by omega,m1,m2,⟨hs.nl,hs.rl⟩,hs.al,by simp,by dsimp only;omega,fun i i0 i1=>?_,fun i c i0 i1 c0 c1=>?_⟩,fun w hw=>?_⟩
 ·dsimp only
  rw [hs.ac i i0 i1];split<;>omega
 ·dsimp only
  rcases hs.rw_ i i0 i1 c c0 c1 with⟨q,_⟩|⟨q1,q2,_⟩<;>omega
 ·have key:Wd w m→(drun ⟨0,acc,nxt⟩ 0 w= -1∧∀t,¬Wy nx start w t)∨(0≤drun ⟨0,acc,nxt⟩ 0 w∧drun ⟨0,acc,nxt⟩ 0 w<sets.length∧∀t,t∈el sets (drun ⟨0,acc,nxt⟩ 0 w)↔Wy nx start w t):=by
   refine ga (p:=fun w=>Wd w m→(drun ⟨0,acc,nxt⟩ 0 w= -1∧∀t,¬Wy nx start w t)∨(0≤drun ⟨0,acc,nxt⟩ 0 w∧drun ⟨0,acc,nxt⟩ 0 w<sets.length∧∀t,t∈el sets (drun ⟨0,acc,nxt⟩ 0 w)↔Wy nx start w t)) (fun _=>.inr ⟨by simp [drun],by simp [drun];omega,hs.ini⟩) (fun w c ih hw=>?_) w
   rw [Wd.snoc] at hw
   rw [dK]
   rcases ih hw.1 with⟨e,h⟩|⟨e1,e2,h⟩
   ·rw [e,eQ]
    refine .inl ⟨rfl,fun t ht=>?_⟩
    obtain⟨s,hs,-⟩:=(Wy.snoc hw.2.1).1 ht
    exact h s hs
   ·generalize drun ⟨0,acc,nxt⟩ 0 w=v at*
    have ed:drun (⟨0,acc,nxt⟩:Ty.J5) v [c]=el2 nxt v c:=by
     show Df.dstep _ v c=_
     unfold Df.dstep;rw [if_neg (by omega)]
    rw [ed]
    rcases hs.rw_ v e1 e2 c hw.2.1 hw.2.2 with⟨a1,a2⟩|⟨a1,a2,a3⟩
    ·refine .inl ⟨a1,fun t ht=>?_⟩
     obtain⟨s,hs,t',h3,-⟩:=(Wy.snoc hw.2.1).1 ht
     exact a2 s ((h s).2 hs) t' h3
    ·refine .inr ⟨a1,a2,fun t=>?_⟩
     rw [a3,Wy.snoc hw.2.1]
     constructor
     ·rintro⟨s,hs,t0,q1,q2⟩;exact⟨s,(h s).1 hs,t0,q1,q2⟩
     ·rintro⟨s,hs,t0,q1,q2⟩;exact⟨s,(h s).2 hs,t0,q1,q2⟩
  unfold tell told
  dsimp only
  rcases key hw with⟨e,h⟩|⟨e1,e2,h⟩
  ·rw [e,if_pos (by omega)]
   exact⟨fun q=>by omega,fun q=>absurd q (h _)⟩
  ·rw [if_neg (by omega),hs.ac _ e1 e2,←h stop]
   split
   ·rename_i q;exact⟨fun _=>q,fun _=>by omega⟩
   ·rename_i q;exact⟨fun z=>by omega,fun z=>absurd z q⟩
end Go.Proofs.Ytmfkjilndpchbaa.Ap
