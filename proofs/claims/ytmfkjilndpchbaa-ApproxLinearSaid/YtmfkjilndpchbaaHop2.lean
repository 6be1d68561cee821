import Derived.Test.YtmfkjilndpchbaaHop1
namespace Go.Proofs.Ytmfkjilndpchbaa.Df
open Go Go.Ab Go.Pu
structure PV (of:List Int)(bs:List (List Int))(N:Int):Prop where
 ol:(of.length:Int)=N
 rg:∀s,0≤s→s<N→0≤el of s∧el of s<bs.length
 mem:∀b:Int,0≤b→b<bs.length→∀s,s∈el bs b↔0≤s∧s<N∧el of s=b
 ne:∀b:Int,0≤b→b<bs.length→∃s,0≤s∧s<N∧el of s=b
 len:∀b:Int,0≤b→b<bs.length→((el bs b).length:Int)≤N
theorem PV.count {of:List Int}{bs:List (List Int)}{N:Int}(h:PV of bs N)(h0:0≤N):(bs.length:Int)≤N:=by
 have key:∀k:Nat,k≤bs.length→∃l:List Int,l.length=k∧l.Nodup∧∀s∈l,0≤s∧s<N∧el of s<k:=by
  intro k
  induction k with
  | zero=>intro _;exact⟨[],rfl,List.nodup_nil,fun s hs=>by simp at hs⟩
  | succ k ih=>
    intro hk
    obtain⟨l,l1,l2,l3⟩:=ih (by omega)
    obtain⟨s,s0,s1,s2⟩:=h.ne k (by omega) (by omega)
    refine⟨s::l,by simp [l1],List.nodup_cons.2 ⟨fun q=>?_,l2⟩,fun z hz=>?_⟩
    ·have:=(l3 s q).2.2;omega
    ·rcases List.mem_cons.1 hz with rfl|q
     ·exact⟨s0,s1,by omega⟩
     ·have:=l3 z q;exact⟨this.1,this.2.1,by omega⟩
 obtain⟨l,l1,l2,l3⟩:=key bs.length (Nat.le_refl _)
 have:=il (N:=N.toNat) l l2 (fun x hx=>by have:=l3 x hx;omega)
 omega
theorem begin_ok {a:List Int}{N:Int}(hN:(a.length:Int)=N)(h1:N≤1000):Ok (P.G7 a) fun p=>PV p.of_ p.blocks N∧∀s t,0≤s→s<N→0≤t→t<N→(el p.of_ s=el p.of_ t↔el a s=el a t):=by
 have h0:0≤N:=by omega
 unfold P.G7
 rw [hN,fl h0 (by omega) (by omega),Option.bind_some]
 refine Ok.bind (aM (fun i (s:List Int×List (List Int)×List (Int×Int))=>(s.1.length:Int)=N∧(s.2.1.length≤i)∧
  (∀z:Int,0≤z→z<i→Pu.mget (el a z) s.2.2=some (el s.1 z))∧
  (∀t b,Pu.mget t s.2.2=some b→0≤b∧b<s.2.1.length∧∃z:Int,0≤z∧z<i∧el s.1 z=b∧el a z=t)∧
  (∀b:Int,0≤b→b<s.2.1.length→((el s.2.1 b).length:Int)≤i∧(∃t,Pu.mget t s.2.2=some b)∧∀z,z∈el s.2.1 b↔0≤z∧z<i∧el s.1 z=b)∧
  (∀t t' b,Pu.mget t s.2.2=some b→Pu.mget t' s.2.2=some b→t=t'))
  (Q:=fun s=>PV s.1 s.2.1 N∧∀x y,0≤x→x<N→0≤y→y<N→(el s.1 x=el s.1 y↔el a x=el a y))
  ⟨by simp;omega,by simp,fun z a b=>by omega,fun t b q=>by simp [Pu.mget] at q,fun b b0 b1=>by simp at b1;omega,fun t t' b q=>by simp [Pu.mget] at q⟩ (fun i x s hx hs=>?_) fun s hs=>?_) fun s hs=>.some hs
 ·obtain⟨of,bs,ix⟩:=s
  obtain⟨a1,a2,a3,a4,a5,a6⟩:=hs
  dsimp only at a1 a2 a3 a4 a5 a6
  have hi:=(List.getElem?_eq_some_iff.1 hx).1
  have hxe:el a (i:Int)=x:=aT hx
  unfold P.G7.b0
  dsimp only
  have hblk:Ok (if(!(Pu.mget x ix).isSome)=true then(Pu.app 24 bs [[]]).bind fun x3=>some (x3,Pu.mput x (bs.length:Int) ix,(bs.length:Int)) else some (bs,ix,(Pu.mget x ix).getD 0))
   fun(r:List (List Int)×List (Int×Int)×Int)=>(r.1.length≤i+1)∧0≤r.2.2∧r.2.2<r.1.length∧Pu.mget x r.2.1=some r.2.2∧
    (∀z:Int,0≤z→z<i→Pu.mget (el a z) r.2.1=some (el of z))∧
    (∀t b,Pu.mget t r.2.1=some b→0≤b∧b<r.1.length∧(t=x∨∃z:Int,0≤z∧z<i∧el of z=b∧el a z=t))∧
    (∀b:Int,0≤b→b<r.1.length→((el r.1 b).length:Int)≤i∧(∃t,Pu.mget t r.2.1=some b)∧∀z,z∈el r.1 b↔0≤z∧z<i∧el of z=b)∧
    (∀t t' b,Pu.mget t r.2.1=some b→Pu.mget t' r.2.1=some b→t=t'):=by
   cases hg:Pu.mget x ix with
   | some b=>
     obtain⟨b0,b1,-⟩:=a4 x b hg
     rw [if_neg (by simp)]
     refine .some ⟨by dsimp only;omega,b0,b1,hg,a3,fun t b' q=>?_,a5,a6⟩
     obtain⟨c0,c1,c2⟩:=a4 t b' q
     exact⟨c0,c1,.inr c2⟩
   | none=>
     rw [if_pos (by simp),bk (by simp;omega),Option.bind_some]
     have hold:∀{b:Int},0≤b→b<bs.length→el (bs++ [([]:List Int)]) b=el bs b:=fun {b} q q'=>bg (by omega)
     have hlt:∀{z:Int},0≤z→z<i→el of z<bs.length:=fun {z} z0 z1=>(a4 _ _ (a3 z z0 z1)).2.1
     refine .some ⟨by simp;omega,by dsimp only;omega,by simp;omega,by rw [bu,if_pos rfl],fun z z0 z1=>?_,fun t b q=>?_,fun b b0 b1=>?_,fun t t' b q q'=>?_⟩
     ·rw [bu,if_neg ?_]
      ·exact a3 z z0 z1
      ·intro e
       have:=a3 z z0 z1
       rw [e,hg] at this;cases this
     ·rw [bu] at q
      by_cases e:t=x
      ·rw [if_pos e] at q;cases q
       exact⟨by omega,by simp;omega,.inl e⟩
      ·rw [if_neg e] at q
       obtain⟨c0,c1,c2⟩:=a4 t b q
       exact⟨c0,by simp;omega,.inr c2⟩
     ·rcases(by simp at b1;omega:b<bs.length∨b=(bs.length:Int)) with q|rfl
      ·obtain⟨c1,⟨t,ht⟩,c3⟩:=a5 b b0 q
       refine⟨by dsimp only;rw [hold b0 q];exact c1,⟨t,?_⟩,by dsimp only;rw [hold b0 q];exact c3⟩
       rw [bu,if_neg ?_]
       ·exact ht
       ·intro e;rw [e,hg] at ht;cases ht
      ·have hl:el (bs++ [([]:List Int)]) (bs.length:Int)= []:=aT (by simp)
       dsimp only
       rw [hl]
       refine⟨by simp,⟨x,by rw [bu,if_pos rfl]⟩,fun z=>⟨fun q=>by simp at q,fun⟨z0,z1,z2⟩=>?_⟩⟩
       have:=hlt z0 z1
       omega
     ·rw [bu] at q q'
      by_cases e:t=x
      ·rw [if_pos e] at q;cases q
       by_cases e':t'=x
       ·rw [e,e']
       ·rw [if_neg e'] at q'
        have:=(a4 t' _ q').2.1
        omega
      ·rw [if_neg e] at q
       by_cases e':t'=x
       ·rw [if_pos e'] at q';cases q'
        have:=(a4 t _ q).2.1
        omega
       ·rw [if_neg e'] at q'
        exact a6 t t' b q q'
  refine hblk.bind fun r hr=>?_
  obtain⟨bs',ix',b⟩:=r
  obtain⟨c0,c1,c2,c3,c4,c5,c6,c7⟩:=hr
  dsimp only at c0 c1 c2 c3 c4 c5 c6 c7 ⊢
  have hb:=c6 b c1 c2
  rw [aG c1 c2,Option.bind_some,bk (by simp;omega),Option.bind_some,aG (by omega) (by omega),Option.bind_some,Option.bind_some]
  have hof:∀z:Int,0≤z→el (Pu.st of (i:Int) b) z=if z=(i:Int) then b else el of z:=fun z z0=>cF (by omega) (by omega) z0
  refine .some ⟨by rw [bj];exact a1,by rw [bj];exact c0,fun z z0 z1=>?_,fun t b' q=>?_,fun b' b0 b1=>?_,c7⟩
  ·dsimp only
   rw [hof z z0]
   rcases(by omega:z<(i:Int)∨z=(i:Int)) with e|rfl
   ·rw [if_neg (by omega)];exact c4 z z0 e
   ·rw [if_pos rfl,hxe];exact c3
  ·obtain⟨d0,d1,d2⟩:=c5 t b' q
   refine⟨d0,by dsimp only;rw [bj];exact d1,?_⟩
   rcases d2 with rfl|⟨z,z0,z1,z2,z3⟩
   ·rw [c3] at q;cases q
    exact⟨i,by omega,by omega,by dsimp only;rw [hof i (by omega),if_pos rfl],hxe⟩
   ·exact⟨z,z0,by omega,by dsimp only;rw [hof z z0,if_neg (by omega)];exact z2,z3⟩
  ·dsimp only at b1 ⊢
   rw [bj] at b1
   obtain⟨d1,d2,d3⟩:=c6 b' b0 b1
   rw [cF c1 c2 b0]
   by_cases e:b'=b
   ·subst e
    rw [if_pos rfl]
    refine⟨by simp;omega,d2,fun z=>?_⟩
    rw [List.mem_append,List.mem_singleton,d3]
    constructor
    ·rintro(⟨z0,z1,z2⟩|rfl)
     ·exact⟨z0,by omega,by rw [hof z z0,if_neg (by omega)];exact z2⟩
     ·exact⟨by omega,by omega,by rw [hof i (by omega),if_pos rfl]⟩
    ·rintro⟨z0,z1,z2⟩
     rw [hof z z0] at z2
     rcases(by omega:z<(i:Int)∨z=(i:Int)) with q|q
     ·rw [if_neg (by omega)] at z2;exact .inl ⟨z0,q,z2⟩
     ·exact .inr q
   ·rw [if_neg e]
    refine⟨by omega,d2,fun z=>?_⟩
    rw [d3]
    constructor
    ·rintro⟨z0,z1,z2⟩;exact⟨z0,by omega,by rw [hof z z0,if_neg (by omega)];exact z2⟩
    ·rintro⟨z0,z1,z2⟩
     rw [hof z z0] at z2
     rcases(by omega:z<(i:Int)∨z=(i:Int)) with q|q
     ·rw [if_neg (by omega)] at z2;exact⟨z0,q,z2⟩
     ·rw [if_pos q] at z2;exact absurd z2.symm e
 ·obtain⟨a1,a2,a3,a4,a5,a6⟩:=hs
  rw [hN] at a3 a4 a5
  refine⟨⟨a1,fun s s0 s1=>?_,fun b b0 b1 s=>(a5 b b0 b1).2.2 s,fun b b0 b1=>?_,fun b b0 b1=>(a5 b b0 b1).1⟩,fun x y x0 x1 y0 y1=>⟨fun e=>?_,fun e=>?_⟩⟩
  ·obtain⟨c0,c1,-⟩:=a4 _ _ (a3 s s0 s1);exact⟨c0,c1⟩
  ·obtain⟨-,⟨t,ht⟩,-⟩:=a5 b b0 b1
   obtain⟨-,-,z,z0,z1,z2,-⟩:=a4 t b ht
   exact⟨z,z0,z1,z2⟩
  ·
   have h2:=a3 x x0 x1
   have h3:=a3 y y0 y1
   rw [←e] at h3
   exact a6 _ _ _ h2 h3
  ·have h2:=a3 x x0 x1
   have h3:=a3 y y0 y1
   rw [e,h3] at h2
   exact(Option.some.inj h2).symm
structure SV (of of':List Int)(bs bs':List (List Int))(out:List (Int×Int))(l:List Int)(N:Int):Prop where
 pv:PV of' bs' N
 cnt:bs'.length=bs.length+out.length
 iff:∀s t,0≤s→s<N→0≤t→t<N→(el of' s=el of' t↔el of s=el of t∧(s∈l↔t∈l))
 chg:∀s,0≤s→s<N→el of' s≠el of s→(el of s,el of' s)∈out∧(bs.length:Int)≤el of' s∧s∉l
 rg:∀p∈out,0≤p.1∧p.1<bs'.length∧0≤p.2∧p.2<bs'.length
theorem filt_ok {y1:List (Int×Bool)×List Int}{l xs:List Int}(hm:∀s,(Pu.mget s y1.1).getD false=decide (s∈l))(hl:(xs.length:Int)≤1000000):
 Ok (Pu.forP (P.B5.b2 y1) 0 xs ([],[])) fun r=>r=(xs.filter (fun s=>decide (s∈l)),xs.filter (fun s=>!decide (s∈l))):=by
 refine aM (fun i (r:List Int×List Int)=>r=((xs.take i).filter (fun s=>decide (s∈l)),(xs.take i).filter (fun s=>!decide (s∈l)))) rfl (fun i x s hx hs=>?_) fun s hs=>by rwa [List.take_length] at hs
 subst hs
 have hi:=(List.getElem?_eq_some_iff.1 hx).1
 have b1:((xs.take i).filter (fun s=>decide (s∈l))).length≤xs.length:=Nat.le_trans (List.length_filter_le _ _) (by simp;omega)
 have b2:((xs.take i).filter (fun s=>!decide (s∈l))).length≤xs.length:=Nat.le_trans (List.length_filter_le _ _) (by simp;omega)
 have ht:xs.take (i+1)=xs.take i++ [x]:=by rw [List.take_add_one,hx];rfl
 unfold P.B5.b2
 dsimp only
 rw [hm x,ht,List.filter_append,List.filter_append]
 by_cases e:x∈l
 ·rw [if_pos (by simpa using e),bk (by simp only [List.length_singleton];omega),Option.bind_some,Option.bind_some]
  refine .some ?_
  simp [e]
 ·rw [if_neg (by simpa using e),bk (by simp only [List.length_singleton];omega),Option.bind_some,Option.bind_some]
  refine .some ?_
  simp [e]
theorem setall_ok {s12:List Int×List (List Int)×List (Int×Int)}{xs of:List Int}{N:Int}(hof:(of.length:Int)=N)(hr:∀s∈xs,0≤s∧s<N):
 Ok (Pu.forP (P.B5.b3 s12) 0 xs of) fun r=>(r.length:Int)=N∧∀s,0≤s→s<N→el r s=if s∈xs then(s12.2.1.length:Int) else el of s:=by
 refine aM (fun i (r:List Int)=>(r.length:Int)=N∧∀s,0≤s→s<N→el r s=if s∈xs.take i then(s12.2.1.length:Int) else el of s) ⟨hof,fun s _ _=>by simp⟩ (fun i x r hx hs=>?_) fun r hs=>by rwa [List.take_length] at hs
 obtain⟨a1,a2⟩:=hs
 have hxr:=hr x (List.mem_of_getElem? hx)
 have ht:xs.take (i+1)=xs.take i++ [x]:=by rw [List.take_add_one,hx];rfl
 unfold P.B5.b3
 rw [aG hxr.1 (by omega),Option.bind_some]
 refine .some ⟨by rw [bj];exact a1,fun s s0 s1=>?_⟩
 rw [cF hxr.1 (by omega) s0,ht]
 by_cases e:s=x
 ·rw [if_pos e,if_pos (by simp [e])]
 ·rw [if_neg e,a2 s s0 s1]
  by_cases e2:s∈xs.take i
  ·rw [if_pos e2,if_pos (by simp [e2])]
  ·rw [if_neg e2,if_neg (by simp [e2,e])]
structure SJ (of of':List Int)(bs bs':List (List Int))(out:List (Int×Int))(l T:List Int)(N:Int):Prop where
 pv:PV of' bs' N
 cnt:bs'.length=bs.length+out.length
 ref:∀s t,0≤s→s<N→0≤t→t<N→el of' s=el of' t→el of s=el of t
 inl:∀s,0≤s→s<N→(s∈l∨el of s∉T)→el of' s=el of s
 out_:∀s,0≤s→s<N→s∉l→el of s∈T→(bs.length:Int)≤el of' s∧(el of s,el of' s)∈out
 same:∀s t,0≤s→s<N→0≤t→t<N→s∉l→t∉l→el of s=el of t→el of' s=el of' t
 rg:∀p∈out,0≤p.1∧p.1<bs'.length∧0≤p.2∧p.2<bs'.length
theorem SJ.step {of of':List Int}{bs bs':List (List Int)}{out:List (Int×Int)}{l T:List Int}{N b:Int}(hp:PV of bs N)(h:SJ of of' bs bs' out l T N)(b0:0≤b)(b1:b<bs.length)(hT:b∉T)(hl:∃s,0≤s∧s<N∧el of s=b∧s∈l):
 (∀s,s∈el bs' b↔0≤s∧s<N∧el of s=b):=by
 have hle:(bs.length:Int)≤bs'.length:=by have:=h.cnt;omega
 intro s
 rw [h.pv.mem b b0 (by omega)]
 constructor
 ·rintro⟨s0,s1,e⟩
  refine⟨s0,s1,?_⟩
  obtain⟨t,t0,t1,t2,t3⟩:=hl
  have:=h.inl t t0 t1 (.inl t3)
  exact(h.ref s t s0 s1 t0 t1 (by rw [e,this,t2])).trans t2
 ·rintro⟨s0,s1,e⟩
  exact⟨s0,s1,by rw [h.inl s s0 s1 (.inr (by rw [e];exact hT)),e]⟩
theorem split_ok {of l:List Int}{bs:List (List Int)}{N:Int}(hp:PV of bs N)(h0:0≤N)(h1:N≤1000)(hl:∀s∈l,0≤s∧s<N)(hll:(l.length:Int)≤1000000):
 Ok (P.B5 ⟨of,bs⟩ l) fun r=>SV of r.1.of_ bs r.1.blocks r.2 l N:=by
 unfold P.B5
 refine Ok.bind (aM (fun i (s:List (Int×Bool)×List Int)=>(∀z,(Pu.mget z s.1).getD false=decide (z∈l.take i))∧s.2.Nodup∧s.2.length≤i∧∀b,b∈s.2↔∃z∈l.take i,el of z=b)
  (Q:=fun s=>(∀z,(Pu.mget z s.1).getD false=decide (z∈l))∧s.2.Nodup∧(s.2.length:Int)≤1000000∧∀b,b∈s.2↔∃z∈l,el of z=b) ⟨fun z=>by simp [Pu.mget],List.nodup_nil,by simp,fun b=>by simp⟩ (fun i x s hx hs=>?_) fun s hs=>?_) fun y1 hy1=>?_
 ·obtain⟨mp,tc⟩:=s
  obtain⟨a1,a2,a3,a4⟩:=hs
  dsimp only at a1 a2 a3 a4
  have hi:=(List.getElem?_eq_some_iff.1 hx).1
  have hxr:=hl x (List.mem_of_getElem? hx)
  have hol:=hp.ol
  have ht:l.take (i+1)=l.take i++ [x]:=by rw [List.take_add_one,hx];rfl
  unfold P.B5.b0
  dsimp only
  rw [aG hxr.1 (by omega),Option.bind_some,cN _ _ (by omega),Option.bind_some]
  have ha:Ok (if(!decide (el of x∈tc))=true then(some (el of x)).bind fun x4=>(Pu.app 8 tc [x4]).bind fun x5=>some x5 else some tc) fun r=>r.Nodup∧r.length≤i+1∧∀b,b∈r↔∃z∈l.take (i+1),el of z=b:=by
   by_cases e:el of x∈tc
   ·rw [if_neg (by simpa using e)]
    refine .some ⟨a2,by omega,fun b=>?_⟩
    rw [a4,ht]
    constructor
    ·rintro⟨z,z1,z2⟩;exact⟨z,by simp [z1],z2⟩
    ·rintro⟨z,z1,z2⟩
     rcases List.mem_append.1 z1 with q|q
     ·exact⟨z,q,z2⟩
     ·rw [List.mem_singleton] at q;subst q
      rw [←z2];exact(a4 _).1 e
   ·rw [if_pos (by simpa using e),Option.bind_some,bk (by simp;omega),Option.bind_some]
    refine .some ⟨?_,by simp;omega,fun b=>?_⟩
    ·rw [List.nodup_append]
     exact⟨a2,by simp,fun a ha b hb=>by rw [List.mem_singleton] at hb;subst hb;intro q;subst q;exact e ha⟩
    ·rw [List.mem_append,List.mem_singleton,a4,ht]
     constructor
     ·rintro(⟨z,z1,z2⟩|rfl)
      ·exact⟨z,by simp [z1],z2⟩
      ·exact⟨x,by simp,rfl⟩
     ·rintro⟨z,z1,z2⟩
      rcases List.mem_append.1 z1 with q|q
      ·exact .inl ⟨z,q,z2⟩
      ·rw [List.mem_singleton] at q;subst q;exact .inr z2.symm
  refine ha.bind fun r hr=>.some ⟨fun z=>?_,hr⟩
  dsimp only
  rw [bu,ht]
  by_cases e:z=x
  ·simp [e]
  ·rw [if_neg e,a1];simp [e]
 ·rw [List.take_length] at hs
  exact⟨hs.1,hs.2.1,by have:=hs.2.2.1;omega,hs.2.2.2⟩
 ·obtain⟨mp,tc⟩:=y1
  obtain⟨m1,m2,m3,m4⟩:=hy1
  dsimp only at m1 m2 m3 m4 ⊢
  refine Ok.bind (aM (fun i (s:List Int×List (List Int)×List (Int×Int))=>SJ of s.1 bs s.2.1 s.2.2 l (tc.take i) N) (Q:=fun s=>SJ of s.1 bs s.2.1 s.2.2 l tc N)
   ⟨hp,rfl,fun s t _ _ _ _ e=>e,fun s _ _ _=>rfl,fun s _ _ _ q=>by simp at q,fun s t _ _ _ _ _ _ e=>e,fun p q=>by simp at q⟩ (fun i b s hx hs=>?_) fun s hs=>by rwa [List.take_length] at hs) fun s hs=>.some ?_
  ·obtain⟨of',bs',out⟩:=s
   dsimp only at hs
   have hi:=(List.getElem?_eq_some_iff.1 hx).1
   have ht:tc.take (i+1)=tc.take i++ [b]:=by rw [List.take_add_one,hx];rfl
   obtain⟨w,w1,w2⟩:=(m4 b).1 (List.mem_of_getElem? hx)
   have hw:=hl w w1
   have hb:=hp.rg w hw.1 hw.2
   rw [w2] at hb
   have hT:b∉tc.take i:=by
    intro q
    have:=List.nodup_append.1 (show(tc.take i++tc.drop i).Nodup by rw [List.take_append_drop];exact m2)
    refine this.2.2 b q b ?_ rfl
    rw [List.drop_eq_getElem_cons hi]
    have:tc[i]=b:=(List.getElem?_eq_some_iff.1 hx).2
    rw [this];exact List.mem_cons_self ..
   have hle:(bs.length:Int)≤bs'.length:=by have:=hs.cnt;omega
   have hmem:=hs.step hp hb.1 hb.2 hT ⟨w,hw.1,hw.2,w2,w1⟩
   have hbl:=hs.pv.len b hb.1 (by omega)
   have hcount:=hs.pv.count h0
   unfold P.B5.b1
   dsimp only
   rw [aG hb.1 (by omega),Option.bind_some]
   refine(filt_ok m1 (by omega)).bind fun r hr=>?_
   subst hr
   dsimp only
   have hyes:∀s,s∈(el bs' b).filter (fun s=>decide (s∈l))↔0≤s∧s<N∧el of s=b∧s∈l:=fun s=>by
    rw [List.mem_filter,hmem];simp [and_assoc]
   have hno:∀s,s∈(el bs' b).filter (fun s=>!decide (s∈l))↔0≤s∧s<N∧el of s=b∧s∉l:=fun s=>by
    rw [List.mem_filter,hmem];simp [and_assoc]
   have hyl:(((el bs' b).filter (fun s=>decide (s∈l))).length:Int)≤N:=by have:=List.length_filter_le (fun s=>decide (s∈l)) (el bs' b);omega
   have hnl:(((el bs' b).filter (fun s=>!decide (s∈l))).length:Int)≤N:=by have:=List.length_filter_le (fun s=>!decide (s∈l)) (el bs' b);omega
   generalize (el bs' b).filter (fun s=>decide (s∈l))=yes at hyes hyl
   generalize (el bs' b).filter (fun s=>!decide (s∈l))=no at hno hnl
   refine .ite (fun hz=>?_) fun hz=>?_
   ·have hnil:no= []:=List.eq_nil_of_length_eq_zero (by omega)
    subst hnil
    have hall:∀s,0≤s→s<N→el of s=b→s∈l:=fun s s0 s1 e=>by
     refine Classical.byContradiction fun q=>?_
     have:=(hno s).2 ⟨s0,s1,e,q⟩
     simp at this
    refine .some ⟨hs.pv,hs.cnt,hs.ref,fun s s0 s1 q=>?_,fun s s0 s1 q1 q2=>?_,hs.same,hs.rg⟩
    ·rcases q with q|q
     ·exact hs.inl s s0 s1 (.inl q)
     ·rw [ht] at q;simp at q
      exact hs.inl s s0 s1 (.inr q.1)
    ·rw [ht] at q2
     rcases List.mem_append.1 q2 with q|q
     ·exact hs.out_ s s0 s1 q1 q
     ·rw [List.mem_singleton] at q
      exact absurd (hall s s0 s1 q) q1
   ·have hol:=hs.pv.ol
    have hol2:(out.length:Int)≤N:=by have:=hs.cnt;omega
    rw [Option.bind_some,bk (by rw [bj];simp;omega),Option.bind_some]
    refine(setall_ok (N:=N) hol (fun s q=>by have:=(hno s).1 q;exact⟨this.1,this.2.1⟩)).bind fun of2 ⟨hof1,hof2⟩=>?_
    dsimp only at hof2
    rw [bk (by simp;omega),Option.bind_some]
    have e1:∀s,0≤s→s<N→el of s=b→s∉l→el of2 s=(bs'.length:Int):=fun s s0 s1 e q=>by
     rw [hof2 s s0 s1,if_pos ((hno s).2 ⟨s0,s1,e,q⟩)]
    have e2:∀s,0≤s→s<N→¬(el of s=b∧s∉l)→el of2 s=el of' s:=fun s s0 s1 e=>by
     rw [hof2 s s0 s1,if_neg (fun q=>e ⟨((hno s).1 q).2.2.1,((hno s).1 q).2.2.2⟩)]
    have hbl2:((Pu.st bs' b yes++ [no]).length:Int)=bs'.length+1:=by simp
    have hlt:∀s,0≤s→s<N→el of' s<bs'.length:=fun s s0 s1=>(hs.pv.rg s s0 s1).2
    have enew:el (Pu.st bs' b yes++ [no]) (bs'.length:Int)=no:=aT (by simp)
    have eold:∀c:Int,0≤c→c<bs'.length→el (Pu.st bs' b yes++ [no]) c=if c=b then yes else el bs' c:=fun c c0 c1=>by
     rw [bg (by rw [bj];omega),cF hb.1 (by omega) c0]
    obtain⟨z,hz0⟩:∃z,z∈no:=by
     cases no with
     | nil=>simp at hz
     | cons z _=>exact⟨z,List.mem_cons_self ..⟩
    obtain⟨z0,z1,z2,z3⟩:=(hno z).1 hz0
    refine .some ⟨⟨hof1,fun s s0 s1=>?_,fun c c0 c1 s=>?_,fun c c0 c1=>?_,fun c c0 c1=>?_⟩,by simp [hs.cnt];omega,fun s t s0 s1 t0 t1 e=>?_,fun s s0 s1 q=>?_,fun s s0 s1 q1 q2=>?_,fun s t s0 s1 t0 t1 q1 q2 e=>?_,fun p q=>?_⟩
    ·dsimp only
     rw [hbl2]
     have:=hs.pv.rg s s0 s1
     by_cases q:el of s=b∧s∉l
     ·rw [e1 s s0 s1 q.1 q.2];omega
     ·rw [e2 s s0 s1 q];omega
    ·dsimp only at c1 ⊢
     rw [hbl2] at c1
     rcases(by omega:c<bs'.length∨c=(bs'.length:Int)) with q|rfl
     ·rw [eold c c0 q]
      by_cases e:c=b
      ·subst e
       rw [if_pos rfl,hyes]
       constructor
       ·rintro⟨s0,s1,s2,s3⟩
        refine⟨s0,s1,?_⟩
        rw [e2 s s0 s1 (fun q=>q.2 s3),hs.inl s s0 s1 (.inl s3)];exact s2
       ·rintro⟨s0,s1,s2⟩
        by_cases q2:el of s=c∧s∉l
        ·rw [e1 s s0 s1 q2.1 q2.2] at s2;omega
        ·rw [e2 s s0 s1 q2] at s2
         have:=(hmem s).1 ((hs.pv.mem c c0 q s).2 ⟨s0,s1,s2⟩)
         refine⟨s0,s1,this.2.2,?_⟩
         refine Classical.byContradiction fun q3=>q2 ⟨this.2.2,q3⟩
      ·rw [if_neg e,hs.pv.mem c c0 q]
       constructor
       ·rintro⟨s0,s1,s2⟩
        refine⟨s0,s1,?_⟩
        rw [e2 s s0 s1 ?_]
        ·exact s2
        ·rintro⟨q1,q2⟩
         have:=(hs.pv.mem b hb.1 (by omega) s).1 ((hmem s).2 ⟨s0,s1,q1⟩)
         omega
       ·rintro⟨s0,s1,s2⟩
        refine⟨s0,s1,?_⟩
        by_cases q2:el of s=b∧s∉l
        ·rw [e1 s s0 s1 q2.1 q2.2] at s2;omega
        ·rw [e2 s s0 s1 q2] at s2;exact s2
     ·rw [enew,hno]
      constructor
      ·rintro⟨s0,s1,s2,s3⟩;exact⟨s0,s1,e1 s s0 s1 s2 s3⟩
      ·rintro⟨s0,s1,s2⟩
       by_cases q2:el of s=b∧s∉l
       ·exact⟨s0,s1,q2.1,q2.2⟩
       ·rw [e2 s s0 s1 q2] at s2
        have:=hlt s s0 s1;omega
    ·dsimp only at c1 ⊢
     rw [hbl2] at c1
     rcases(by omega:c<bs'.length∨c=(bs'.length:Int)) with q|rfl
     ·by_cases e:c=b
      ·refine⟨w,hw.1,hw.2,?_⟩
       rw [e2 w hw.1 hw.2 (fun q=>q.2 w1),hs.inl w hw.1 hw.2 (.inl w1),w2,e]
      ·obtain⟨s,s0,s1,s2⟩:=hs.pv.ne c c0 q
       refine⟨s,s0,s1,?_⟩
       rw [e2 s s0 s1 ?_]
       ·exact s2
       ·rintro⟨q1,q2⟩
        have:=(hs.pv.mem b hb.1 (by omega) s).1 ((hmem s).2 ⟨s0,s1,q1⟩)
        omega
     ·exact⟨z,z0,z1,e1 z z0 z1 z2 z3⟩
    ·dsimp only at c1 ⊢
     rw [hbl2] at c1
     rcases(by omega:c<bs'.length∨c=(bs'.length:Int)) with q|rfl
     ·rw [eold c c0 q]
      split
      ·exact hyl
      ·exact hs.pv.len c c0 q
     ·rw [enew];exact hnl
    ·
     dsimp only at e
     by_cases q1:el of s=b∧s∉l
     ·by_cases q2:el of t=b∧t∉l
      ·rw [q1.1,q2.1]
      ·rw [e1 s s0 s1 q1.1 q1.2,e2 t t0 t1 q2] at e
       have:=hlt t t0 t1;omega
     ·by_cases q2:el of t=b∧t∉l
      ·rw [e2 s s0 s1 q1,e1 t t0 t1 q2.1 q2.2] at e
       have:=hlt s s0 s1;omega
      ·rw [e2 s s0 s1 q1,e2 t t0 t1 q2] at e
       exact hs.ref s t s0 s1 t0 t1 e
    ·dsimp only
     rcases q with q|q
     ·rw [e2 s s0 s1 (fun q2=>q2.2 q)];exact hs.inl s s0 s1 (.inl q)
     ·rw [ht] at q;simp at q
      rw [e2 s s0 s1 (fun q2=>q.2 q2.1)];exact hs.inl s s0 s1 (.inr q.1)
    ·dsimp only
     rw [ht] at q2
     by_cases q:el of s=b
     ·rw [e1 s s0 s1 q q1,q]
      exact⟨hle,by simp⟩
     ·have:el of s∈tc.take i:=by
       rcases List.mem_append.1 q2 with q3|q3
       ·exact q3
       ·rw [List.mem_singleton] at q3;exact absurd q3 q
      rw [e2 s s0 s1 (fun q2=>q q2.1)]
      obtain⟨o1,o2⟩:=hs.out_ s s0 s1 q1 this
      exact⟨o1,by simp [o2]⟩
    ·dsimp only
     by_cases q:el of s=b
     ·rw [e1 s s0 s1 q q1,e1 t t0 t1 (by rw [←e];exact q) q2]
     ·rw [e2 s s0 s1 (fun q2=>q q2.1),e2 t t0 t1 (fun q2=>q (e.trans q2.1))]
      exact hs.same s t s0 s1 t0 t1 q1 q2 e
    ·dsimp only
     rw [hbl2]
     rcases List.mem_append.1 q with q|q
     ·have:=hs.rg p q;omega
     ·rw [List.mem_singleton] at q;subst q
      dsimp only;omega
  ·obtain⟨of',bs',out⟩:=s
   dsimp only at hs ⊢
   have htc:∀s,0≤s→s<N→s∈l→el of s∈tc:=fun s _ _ q=>(m4 _).2 ⟨s,q,rfl⟩
   refine⟨hs.pv,hs.cnt,fun s t s0 s1 t0 t1=>⟨fun e=>⟨hs.ref s t s0 s1 t0 t1 e,?_⟩,fun⟨e,q⟩=>?_⟩,fun s s0 s1 q=>?_,hs.rg⟩
   ·have er:=hs.ref s t s0 s1 t0 t1 e
    have key:∀s t,0≤s→s<N→0≤t→t<N→el of' s=el of' t→el of s=el of t→s∈l→t∈l:=fun s t s0 s1 t0 t1 e er hsl=>by
     refine Classical.byContradiction fun q=>?_
     have h1:=hs.inl s s0 s1 (.inl hsl)
     have h2:=(hs.out_ t t0 t1 q (by rw [←er];exact htc s s0 s1 hsl)).1
     have h3:=(hp.rg s s0 s1).2
     omega
    exact⟨key s t s0 s1 t0 t1 e er,key t s t0 t1 s0 s1 e.symm er.symm⟩
   ·by_cases h2:s∈l
    ·rw [hs.inl s s0 s1 (.inl h2),hs.inl t t0 t1 (.inl (q.1 h2)),e]
    ·exact hs.same s t s0 s1 t0 t1 h2 (fun q2=>h2 (q.2 q2)) e
   ·have h1:s∉l:=fun q2=>q (hs.inl s s0 s1 (.inl q2))
    have h2:el of s∈tc:=Classical.byContradiction fun q2=>q (hs.inl s s0 s1 (.inr q2))
    obtain⟨o1,o2⟩:=hs.out_ s s0 s1 h1 h2
    exact⟨o2,o1,h1⟩
end Go.Proofs.Ytmfkjilndpchbaa.Df
