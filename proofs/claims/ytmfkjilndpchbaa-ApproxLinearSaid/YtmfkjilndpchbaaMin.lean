import Derived.Test.YtmfkjilndpchbaaHop3
namespace Go.Proofs.Ytmfkjilndpchbaa.Df
open Go Go.Ab Go.Pu
def up (n s:Int):Int:=if s<0 then n else s
structure MN (f:Ty.K4)(of num0:List Int)(num:List (Int×Int))(R:List Int)(dead s0 N m:Int):Prop where
 len:num.length=R.length
 rg:∀j:Int,0≤j→j<R.length→0≤el R j∧el R j<N
 get:∀j:Int,0≤j→j<R.length→Pu.mget (el of (el R j)) num=some j
 inv:∀b j,Pu.mget b num=some j→0≤j∧j<R.length∧el of (el R j)=b
 live:∀j:Int,0<j→j<R.length→el of (el R j)≠dead
 fst:0<R.length∧el R 0=s0
 rch:∀j:Int,0≤j→j<R.length→∃w,Wd w m∧el of (frun f s0 w)=el of (el R j)
def Row (of R:List Int)(dead v t:Int):Prop:=(el of t=dead∧v= -1)∨(el of t≠dead∧0≤v∧v<R.length∧el of (el R v)=el of t)
theorem Row.app {of R:List Int}{dead v t x:Int}(h:Row of R dead v t):Row of (R++ [x]) dead v t:=by
 rcases h with h|⟨h1,h2,h3,h4⟩
 ·exact .inl h
 ·exact .inr ⟨h1,h2,by simp;omega,by rw [el_app_lt' h2 h3];exact h4⟩
where el_app_lt' {α:Type} [Inhabited α] {xs ys:List α} {j:Int} (j0:0≤j) (j1:j<xs.length):el (xs++ys) j=el xs j:=bg (by omega)
theorem MN.count {f:Ty.K4}{of num0:List Int}{num:List (Int×Int)}{R:List Int}{s0 n m:Int}(h:MN f of num0 num R (el of n) s0 (n+1) m)(hs:s0≠n):(R.length:Int)≤n:=by
 have hlt:∀j:Int,0≤j→j<R.length→0≤el R j∧el R j<n:=fun j j0 j1=>by
  have h1:=h.rg j j0 j1
  refine⟨h1.1,?_⟩
  rcases(by omega:j=0∨0<j) with rfl|hj
  ·rw [h.fst.2] at h1 ⊢;omega
  ·have h2:=h.live j hj j1
   have:el R j≠n:=fun e=>h2 (by rw [e])
   omega
 have h0:=hlt 0 (by omega) (by have:=h.fst.1;omega)
 have:=il (N:=n.toNat) R (by
  rw [List.nodup_iff_pairwise_ne,List.pairwise_iff_getElem]
  intro i j hi hj hij e
  have g1:=h.get i (by omega) (by omega)
  have g2:=h.get j (by omega) (by omega)
  rw [show el R (i:Int)=R[i] from aT (List.getElem?_eq_getElem hi)] at g1
  rw [show el R (j:Int)=R[j] from aT (List.getElem?_eq_getElem hj),←e,g1] at g2
  have:=Option.some.inj g2
  omega) (fun x hx=>by
  obtain⟨i,hi⟩:=List.getElem?_of_mem hx
  have:=hlt i (by omega) (by have:=(List.getElem?_eq_some_iff.1 hi).1;omega)
  rw [aT hi] at this
  omega)
 omega
structure MinR (d c:Ty.J5)(k n m:Int):Prop where
 vd:VD c k m
 le:k≤n
 s0:c.Start=0
 tell:∀w,Wd w m→tell c w=tell d w
 red:∀i j,0≤i→i<k→0≤j→j<k→(∀w,Wd w m→told c (drun c i w)=told c (drun c j w))→i=j
 rch:∀j,0≤j→j<k→∃w,Wd w m∧drun c 0 w=j
 live:∀j,0<j→j<k→∃w,Wd w m∧told c (drun c j w)≠ -1
theorem min_ok {d:Ty.J5}{n m:Int}(h:VD d n m){φ:Nat}(hφ:4000≤φ):Ok (P.G0 φ d) fun r=>r.2=0∧∃k,MinR d r.1 k n m:=by
 have hn:=h.dim.1
 have n1:=h.n1;have n2:=h.n2;have m1:=h.m1;have m2:=h.m2;have ha:=h.acc;have hs0:=h.s0;have hs1:=h.s1
 have hd0:=h.dim.2 0 (by omega) (by omega)
 unfold P.G0
 rw [check_ok h,Option.bind_some,if_neg (by omega)]
 refine(complete_ok h (by omega)).bind fun f ⟨hf,hfa,hfn,hfd⟩=>?_
 refine(hop_ok hf hφ).bind fun of ⟨hol,heq⟩=>?_
 rw [hn,aG (by omega) (by omega),Option.bind_some,aG (by omega) (by omega),Option.bind_some]
 have hcong:∀s t c,0≤s→s<n+1→0≤t→t<n+1→0≤c→c<m→el of s=el of t→el of (el2 f.next_ s c)=el of (el2 f.next_ t c):=fun s t c s0 s1 t0 t1 c0 c1 e=>by
  have u:=hf.tg s c s0 s1 c0 c1
  have v:=hf.tg t c t0 t1 c0 c1
  exact(heq _ _ u.1 u.2 v.1 v.2).2 (((heq s t s0 s1 t0 t1).1 e).step c0 c1)
 have hacc:∀s t,0≤s→s<n+1→0≤t→t<n+1→el of s=el of t→el f.accept s=el f.accept t:=fun s t s0 s1 t0 t1 e=>(heq s t s0 s1 t0 t1).1 e [] Wd.nil
 have hdd:∀s c,0≤s→s<n+1→0≤c→c<m→el of s=el of n→el of (el2 f.next_ s c)=el of n:=fun s c s0 s1 c0 c1 e=>by
  rw [hcong s n c s0 s1 (by omega) (by omega) c0 c1 e,hfd c c0 c1]
 have hfr:∀w,Wd w m→0≤frun f d.Start w∧frun f d.Start w<n+1:=fun w hw=>iT hf w _ (Wd.mem.1 hw) hs0 (by omega)
 have hsnoc:∀(s:Int) (w:List Int) (c:Int),frun f s (w++ [c])=el2 f.next_ (frun f s w) c:=fun s w c=>by simp [frun,List.foldl_append]
 refine Ok.bind (bF (fun s=>∃R:List Int,MN f of [] s.1 R (el of n) d.Start (n+1) m∧s.2.1.length≤R.length∧s.2.2.1.length=s.2.1.length∧s.2.2.2=R.drop s.2.1.length∧
  ∀i:Int,0≤i→i<s.2.1.length→el s.2.1 i=el f.accept (el R i)∧((el s.2.2.1 i).length:Int)=m∧∀c,0≤c→c<m→Row of R (el of n) (el2 s.2.2.1 i c) (el2 f.next_ (el R i) c))
  (fun s=>300-s.2.1.length)
  (Q:=fun r=>∃s,r= .out s∧∃R:List Int,MN f of [] s.1 R (el of n) d.Start (n+1) m∧s.2.1.length=R.length∧s.2.2.1.length=s.2.1.length∧
    ∀i:Int,0≤i→i<s.2.1.length→el s.2.1 i=el f.accept (el R i)∧((el s.2.2.1 i).length:Int)=m∧∀c,0≤c→c<m→Row of R (el of n) (el2 s.2.2.1 i c) (el2 f.next_ (el R i) c))
  ⟨[d.Start],⟨rfl,fun j j0 j1=>?_,fun j j0 j1=>?_,fun b j q=>?_,fun j j0 j1=>?_,⟨by simp,rfl⟩,fun j j0 j1=>?_⟩,by simp,rfl,rfl,fun i i0 i1=>by simp at i1;omega⟩ (fun s hs=>?_) (by simp;omega)) fun r hr=>?_
 ·have:j=0:=by simp at j1;omega
  subst this;exact⟨hs0,by show d.Start<n+1;omega⟩
 ·have:j=0:=by simp at j1;omega
  subst this
  rw [bu,show el [d.Start] 0=d.Start from rfl,if_pos rfl]
 ·rw [bu] at q
  by_cases e:b=el of d.Start
  ·rw [if_pos e] at q;cases q
   exact⟨by omega,by simp,e.symm⟩
  ·rw [if_neg e] at q;simp [Pu.mget] at q
 ·simp at j1;omega
 ·have:j=0:=by simp at j1;omega
  subst this
  exact⟨[],Wd.nil,rfl⟩
 ·obtain⟨num,acc,nxt,todo⟩:=s
  obtain⟨R,hR,hle,hnl,htd,hrow⟩:=hs
  dsimp only at hR hle hnl htd hrow
  have hcnt:=hR.count (by omega)
  unfold P.G0.b0
  dsimp only
  refine .ite (fun hpos=>?_) fun hz=>?_
  ·have hlt:acc.length<R.length:=by
    rw [htd,List.length_drop] at hpos;omega
   have htd0:el todo 0=el R (acc.length:Int):=by
    rw [htd]
    unfold el
    rw [List.getElem?_drop];rfl
   have hr0:=hR.rg acc.length (by omega) (by omega)
   rw [aG (by omega) (by omega),Option.bind_some,hd0,jU m1 m2 (by omega),Option.bind_some,aG (by omega) hpos,Option.bind_some,htd0,hf.dim.ix hr0.1 hr0.2,Option.bind_some]
   generalize hs:el R (acc.length:Int)=s at*
   have hrl:=hf.dim.2 s hr0.1 hr0.2
   refine Ok.bind (aM (fun k (z:List (Int×Int)×List Int×List Int)=>∃R2:List Int,MN f of [] z.1 R2 (el of n) d.Start (n+1) m∧(∃E,R2=R++E)∧z.2.1=R2.drop acc.length∧(z.2.2.length:Int)=m∧
    (∀c:Int,0≤c→c<k→Row of R2 (el of n) (el z.2.2 c) (el2 f.next_ s c))∧∀c:Int,k≤c→c<m→el z.2.2 c= -1)
    (Q:=fun z=>∃R2:List Int,MN f of [] z.1 R2 (el of n) d.Start (n+1) m∧(∃E,R2=R++E)∧z.2.1=R2.drop acc.length∧(z.2.2.length:Int)=m∧
      (∀c:Int,0≤c→c<m→Row of R2 (el of n) (el z.2.2 c) (el2 f.next_ s c)))
    ⟨R,hR,⟨[],by simp⟩,htd,by simp;omega,fun c c0 c1=>by omega,fun c c0 c1=>eR (by omega) (by omega)⟩ (fun k t z hx hz=>?_) fun z hz=>?_) fun z hz=>?_
   ·obtain⟨num2,todo2,row⟩:=z
    obtain⟨R2,hR2,⟨E,hE⟩,e3,e4,e5,e6⟩:=hz
    dsimp only at hR2 e3 e4 e5 e6
    have hk:=(List.getElem?_eq_some_iff.1 hx).1
    have hte:el2 f.next_ s k=t:=aT hx
    have ht:=hf.tg s k hr0.1 hr0.2 (by omega) (by omega)
    rw [hte] at ht
    have hcnt2:=hR2.count (by omega)
    unfold P.G0.b1
    dsimp only
    rw [aG ht.1 (by omega),Option.bind_some]
    refine .ite (fun hdead=>.some ⟨R2,hR2,⟨E,hE⟩,e3,e4,fun c c0 c1=>?_,fun c c0 c1=>e6 c (by omega) c1⟩) fun hlive=>?_
    ·rcases(by omega:c<(k:Int)∨c=(k:Int)) with q|rfl
     ·exact e5 c c0 q
     ·rw [hte];exact .inl ⟨hdead,e6 k (by omega) (by omega)⟩
    ·
     have hin:Ok (if(!(Pu.mget (el of t) num2).isSome)=true then(Pu.app 8 todo2 [t]).bind fun x13=>some (Pu.mput (el of t) (num2.length:Int) num2,x13) else some (num2,todo2))
      fun(z:List (Int×Int)×List Int)=>∃R3:List Int,MN f of [] z.1 R3 (el of n) d.Start (n+1) m∧(R3=R2∨R3=R2++ [t])∧z.2=R3.drop acc.length∧∃j,Pu.mget (el of t) z.1=some j:=by
      cases hg:Pu.mget (el of t) num2 with
      | some j=>rw [if_neg (by simp)];exact .some ⟨R2,hR2,.inl rfl,e3,j,hg⟩
      | none=>
        rw [if_pos (by simp),bk (by rw [e3];simp;omega),Option.bind_some]
        have hl2:=hR2.len
        have hlt2:∀{j:Int},0≤j→j<R2.length→el (R2++ [t]) j=el R2 j:=fun {j} j0 j1=>bg (by omega)
        have hlast:el (R2++ [t]) (R2.length:Int)=t:=aT (by simp)
        have hsp:∀{j:Int},j<((R2++ [t]).length:Int)→j<R2.length∨j=(R2.length:Int):=fun {j} q=>by simp at q;omega
        have hf0:=hR2.fst
        refine .some ⟨R2++ [t],⟨by rw [mput_len,hg];simp [hl2],fun j j0 j1=>?_,fun j j0 j1=>?_,fun b j q=>?_,fun j j0 j1=>?_,⟨by simp,by rw [hlt2 (by omega) (by omega)];exact hf0.2⟩,fun j j0 j1=>?_⟩,.inr rfl,?_,R2.length,?_⟩
        ·rcases hsp j1 with q|rfl
         ·rw [hlt2 j0 q];exact hR2.rg j j0 q
         ·rw [hlast];exact ht
        ·rcases hsp j1 with q|rfl
         ·rw [hlt2 j0 q,bu,if_neg ?_]
          ·exact hR2.get j j0 q
          ·intro e
           have:=hR2.get j j0 q
           rw [e,hg] at this;cases this
         ·rw [hlast,bu,if_pos rfl,hl2]
        ·rw [bu] at q
         by_cases e:b=el of t
         ·rw [if_pos e] at q;cases q
          rw [hl2,hlast]
          exact⟨by omega,by simp;omega,e.symm⟩
         ·rw [if_neg e] at q
          obtain⟨a1,a2,a3⟩:=hR2.inv b j q
          exact⟨a1,by simp;omega,by rw [hlt2 a1 a2];exact a3⟩
        ·rcases hsp j1 with q|rfl
         ·rw [hlt2 (by omega) q];exact hR2.live j j0 q
         ·rw [hlast];exact hlive
        ·rcases hsp j1 with q|rfl
         ·rw [hlt2 j0 q];exact hR2.rch j j0 q
         ·rw [hlast]
          obtain⟨w,w1,w2⟩:=hR.rch acc.length (by omega) (by omega)
          rw [hs] at w2
          have hw:=hfr w w1
          refine⟨w++ [(k:Int)],Wd.snoc.2 ⟨w1,by omega,by omega⟩,?_⟩
          rw [hsnoc,hcong _ s k hw.1 hw.2 hr0.1 hr0.2 (by omega) (by omega) w2,hte]
        ·have hRl:acc.length≤R2.length:=by rw [hE,List.length_append];omega
         dsimp only
         rw [e3,List.drop_append_of_le_length hRl]
        ·rw [bu,if_pos rfl,hl2]
     refine hin.bind fun z hz=>?_
     obtain⟨num3,todo3⟩:=z
     obtain⟨R3,hR3,hor,e7,j,hj⟩:=hz
     dsimp only at hR3 e7 hj ⊢
     obtain⟨j0,j1,j2⟩:=hR3.inv _ _ hj
     have hmono:∀{v t':Int},Row of R2 (el of n) v t'→Row of R3 (el of n) v t':=fun {v t'} q=>by
      rcases hor with rfl|rfl
      ·exact q
      ·exact q.app
     rw [aG (by omega) (by omega),Option.bind_some,hj]
     refine .some ⟨R3,hR3,?_,e7,by rw [bj];exact e4,fun c c0 c1=>?_,fun c c0 c1=>?_⟩
     ·rcases hor with rfl|rfl
      ·exact⟨E,hE⟩
      ·exact⟨E++ [t],by rw [hE,List.append_assoc]⟩
     ·dsimp only
      rw [cF (by omega) (by omega) c0]
      rcases(by omega:c<(k:Int)∨c=(k:Int)) with q|rfl
      ·rw [if_neg (by omega)];exact hmono (e5 c c0 q)
      ·rw [if_pos rfl,hte]
       exact .inr ⟨hlive,j0,j1,j2⟩
     ·dsimp only
      rw [cF (by omega) (by omega) (by omega),if_neg (by omega)]
      exact e6 c (by omega) c1
   ·obtain⟨R2,a1,a2,a3,a4,a5,-⟩:=hz
    refine⟨R2,a1,a2,a3,a4,fun c c0 c1=>a5 c c0 ?_⟩
    have:((el f.next_ s).length:Int)=m:=hrl
    omega
   ·obtain⟨num2,todo2,row⟩:=z
    obtain⟨R2,hR2,⟨E,hE⟩,e3,e4,e5⟩:=hz
    dsimp only at hR2 e3 e4 e5 ⊢
    have hcnt2:=hR2.count (by omega)
    have hlt2:acc.length<R2.length:=by rw [hE,List.length_append];omega
    have hRe:∀j:Int,0≤j→j<R.length→el R2 j=el R j:=fun j j0 j1=>by rw [hE];exact bg (by omega)
    have htl:todo2.length=R2.length-acc.length:=by rw [e3,List.length_drop]
    have ht0:el todo2 0=s:=by
     rw [e3,←hs,←hRe acc.length (by omega) (by omega)]
     unfold el
     rw [List.getElem?_drop];rfl
    rw [aG (by omega) (by omega),Option.bind_some,ht0,aG hr0.1 (by rw [hf.acc];exact hr0.2),Option.bind_some,bk (by simp;omega),Option.bind_some,bk (by simp;omega),Option.bind_some,cZ (by omega) (by omega) (Int.le_refl _),Option.bind_some]
    refine .some ⟨⟨R2,hR2,by simp;omega,by simp [hnl],?_,fun i i0 i1=>?_⟩,by simp;omega⟩
    ·dsimp only
     rw [e3,Int.toNat_natCast,List.take_of_length_le (by rw [List.length_drop];omega),List.length_append,List.length_singleton]
     rw [List.drop_drop];rfl
    ·dsimp only at i1 ⊢
     rcases(by simp at i1;omega:i<acc.length∨i=(acc.length:Int)) with q|rfl
     ·have e8:el (nxt++ [row]) i=el nxt i:=bg (by omega)
      have e9:el (acc++ [el f.accept s]) i=el acc i:=bg (by omega)
      obtain⟨a1,a2,a3⟩:=hrow i i0 q
      rw [e9,e8,hRe i i0 (by omega)]
      refine⟨a1,a2,fun c c0 c1=>?_⟩
      unfold el2
      rw [e8]
      have h9:=a3 c c0 c1
      unfold el2 at h9
      rcases h9 with q2|⟨q1,q2,q3,q4⟩
      ·exact .inl q2
      ·exact .inr ⟨q1,q2,by rw [hE,List.length_append];omega,by rw [hRe _ q2 q3];exact q4⟩
     ·have e8:el (nxt++ [row]) (acc.length:Int)=row:=aT (by rw [←hnl];simp)
      have e9:el (acc++ [el f.accept s]) (acc.length:Int)=el f.accept s:=aT (by simp)
      rw [e9,e8,hRe _ (by omega) (by omega),hs]
      refine⟨rfl,e4,fun c c0 c1=>?_⟩
      unfold el2
      rw [e8]
      exact e5 c c0 c1
  ·refine .some ⟨_,rfl,R,hR,?_,hnl,hrow⟩
   dsimp only
   rw [htd,List.length_drop] at hz;omega
 ·obtain⟨s,rfl,R,hR,hRl,hnl,hrow⟩:=hr
  obtain⟨num,acc,nxt,todo⟩:=s
  dsimp only at hR hRl hnl hrow
  have hcnt:=hR.count (by omega)
  have hf0:=hR.fst
  refine .some ⟨rfl,R.length,?_⟩
  dsimp only
  have hfa1:∀s,0≤s→s<n+1→ -1≤el f.accept s:=fun s s0 s1=>by
   rw [hfa]
   rcases(by omega:s<n∨s=n) with q|rfl
   ·rw [bg (by omega)];exact h.a1 s s0 q
   ·rw [show el (d.Accept++ [-1]) s= -1 by rw [←ha];exact aT (by simp)];exact Int.le_refl _
  have hfan:el f.accept n= -1:=by rw [hfa,←ha];exact aT (by simp)
  have hval:∀i c:Int,0≤i→i<R.length→0≤c→c<m→Row of R (el of n) (el2 nxt i c) (el2 f.next_ (el R i) c):=fun i c i0 i1 c0 c1=>(hrow i i0 (by omega)).2.2 c c0 c1
  have hvd:VD ⟨0,acc,nxt⟩ R.length m:=⟨by omega,by omega,m1,m2,⟨by dsimp only;omega,fun i i0 i1=>(hrow i i0 (by omega)).2.1⟩,by dsimp only;omega,by dsimp only;omega,by dsimp only;omega,fun i i0 i1=>by
   dsimp only
   rw [(hrow i i0 (by omega)).1]
   have:=hR.rg i i0 i1
   exact hfa1 _ this.1 this.2,fun i c i0 i1 c0 c1=>by
   dsimp only
   rcases hval i c i0 i1 c0 c1 with⟨-,q⟩|⟨-,q1,q2,-⟩
   ·omega
   ·omega⟩
  have hsim:∀(w:List Int) (i s:Int),Wd w m→0≤s→s<n+1→((i= -1∧el of s=el of n)∨(0≤i∧i<R.length∧el of (el R i)=el of s))→
   ((drun ⟨0,acc,nxt⟩ i w= -1∧el of (frun f s w)=el of n)∨(0≤drun ⟨0,acc,nxt⟩ i w∧drun ⟨0,acc,nxt⟩ i w<R.length∧el of (el R (drun ⟨0,acc,nxt⟩ i w))=el of (frun f s w))):=by
   intro w
   induction w with
   | nil=>intro i s _ _ _ hr;exact hr
   | cons c w ih=>
     intro i s hw s0 s1 hr
     rw [Wd.cons] at hw
     have u:=hf.tg s c s0 s1 hw.1.1 hw.1.2
     refine ih (dstep ⟨0,acc,nxt⟩ i c) (el2 f.next_ s c) hw.2 u.1 u.2 ?_
     rcases hr with⟨rfl,e⟩|⟨i0,i1,e⟩
     ·exact .inl ⟨rfl,hdd s c s0 s1 hw.1.1 hw.1.2 e⟩
     ·have hi:=hR.rg i i0 i1
      have e2:=hcong _ s c hi.1 hi.2 s0 s1 hw.1.1 hw.1.2 e
      have hst:dstep ⟨0,acc,nxt⟩ i c=el2 nxt i c:=by unfold dstep;rw [if_neg (by omega)]
      rw [hst]
      rcases hval i c i0 i1 hw.1.1 hw.1.2 with⟨q1,q2⟩|⟨q1,q2,q3,q4⟩
      ·exact .inl ⟨q2,by rw [←e2];exact q1⟩
      ·exact .inr ⟨q2,q3,by rw [←e2];exact q4⟩
  have htold:∀(w:List Int) (i s:Int),Wd w m→0≤s→s<n+1→((i= -1∧el of s=el of n)∨(0≤i∧i<R.length∧el of (el R i)=el of s))→told ⟨0,acc,nxt⟩ (drun ⟨0,acc,nxt⟩ i w)=el f.accept (frun f s w):=by
   intro w i s hw s0 s1 hr
   have hfw:=iT hf w s (Wd.mem.1 hw) s0 s1
   rcases hsim w i s hw s0 s1 hr with⟨e1,e2⟩|⟨i0,i1,e2⟩
   ·unfold told
    rw [e1,if_pos (by omega),hacc _ n hfw.1 hfw.2 (by omega) (by omega) e2,hfan]
   ·unfold told
    have hi:=hR.rg _ i0 i1
    rw [if_neg (by omega)]
    dsimp only
    rw [(hrow _ i0 (by omega)).1]
    exact hacc _ _ hi.1 hi.2 hfw.1 hfw.2 e2
  have hup:∀(w:List Int) (s:Int),Wd w m→ -1≤s→s<n→frun f (up n s) w=up n (drun d s w):=by
   intro w
   induction w with
   | nil=>intro s _ _ _;rfl
   | cons c w ih=>
     intro s hw s0 s1
     rw [Wd.cons] at hw
     have hr:=hQ h s0 s1 hw.1.1 hw.1.2
     have hstep:el2 f.next_ (up n s) c=up n (dstep d s c):=by
      unfold up dstep
      by_cases q:s<0
      ·rw [if_pos q,if_pos q,if_pos (by omega)];exact hfd c hw.1.1 hw.1.2
      ·rw [if_neg q,if_neg q,hfn s c (by omega) s1 hw.1.1 hw.1.2]
       by_cases q2:0≤el2 d.Next s c
       ·rw [if_pos q2,if_neg (by omega)]
       ·rw [if_neg q2,if_pos (by omega)]
     show frun f (el2 f.next_ (up n s) c) w=up n (drun d (dstep d s c) w)
     rw [hstep]
     exact ih _ hw.2 hr.1 hr.2
  have hst0:up n d.Start=d.Start:=by unfold up;rw [if_neg (by omega)]
  have hR0:((0:Int)= -1∧el of d.Start=el of n)∨((0:Int)≤0∧(0:Int)<R.length∧el of (el R 0)=el of d.Start):=.inr ⟨by omega,by omega,by rw [hf0.2]⟩
  have hself:∀j:Int,0≤j→j<R.length→(j= -1∧el of (el R j)=el of n)∨(0≤j∧j<R.length∧el of (el R j)=el of (el R j)):=fun j j0 j1=>.inr ⟨j0,j1,rfl⟩
  refine⟨hvd,hcnt,rfl,fun w hw=>?_,fun i j i0 i1 j0 j1 e=>?_,fun j j0 j1=>?_,fun j j0 j1=>?_⟩
  ·have hdr:=eD h w d.Start (Wd.mem.1 hw) (by omega) hs1
   show told _ (drun ⟨0,acc,nxt⟩ 0 w)=told d (drun d d.Start w)
   rw [htold w 0 d.Start hw hs0 (by omega) hR0,←hst0,hup w d.Start hw (by omega) hs1,hst0]
   unfold told up
   by_cases q:drun d d.Start w<0
   ·rw [if_pos q,if_pos q,hfan]
   ·rw [if_neg q,if_neg q,hfa,bg (by omega)]
  ·have hi:=hR.rg i i0 i1
   have hj:=hR.rg j j0 j1
   have hE:Eqv f m (el R i) (el R j):=fun w hw=>by
    rw [←htold w i _ hw hi.1 hi.2 (hself i i0 i1),←htold w j _ hw hj.1 hj.2 (hself j j0 j1)]
    exact e w hw
   have e2:=(heq _ _ hi.1 hi.2 hj.1 hj.2).2 hE
   have g1:=hR.get i i0 i1
   have g2:=hR.get j j0 j1
   rw [e2,g2] at g1
   exact(Option.some.inj g1).symm
  ·rcases(by omega:j=0∨0<j) with rfl|hj
   ·exact⟨[],Wd.nil,rfl⟩
   ·obtain⟨w,w1,w2⟩:=hR.rch j j0 j1
    refine⟨w,w1,?_⟩
    rcases hsim w 0 d.Start w1 hs0 (by omega) hR0 with⟨e1,e2⟩|⟨i0,i1,e2⟩
    ·exact absurd (w2.symm.trans e2) (hR.live j hj j1)
    ·have g1:=hR.get _ i0 i1
     have g2:=hR.get j j0 j1
     rw [e2,w2,g2] at g1
     exact(Option.some.inj g1).symm
  ·have hj:=hR.rg j (by omega) j1
   refine Classical.byContradiction fun q=>hR.live j j0 j1 ?_
   refine(heq _ _ hj.1 hj.2 (by omega) (by omega)).2 fun w hw=>?_
   rw [←htold w j _ hw hj.1 hj.2 (hself j (by omega) j1)]
   have h1:told ⟨0,acc,nxt⟩ (drun ⟨0,acc,nxt⟩ j w)= -1:=Classical.byContradiction fun q2=>q ⟨w,hw,q2⟩
   rw [h1,←htold w (-1) n hw (by omega) (by omega) (.inl ⟨rfl,rfl⟩),eQ]
   rfl
end Go.Proofs.Ytmfkjilndpchbaa.Df
