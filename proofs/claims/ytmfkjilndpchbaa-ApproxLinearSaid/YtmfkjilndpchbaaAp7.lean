import Derived.Test.YtmfkjilndpchbaaAp6
import Derived.Test.YtmfkjilndpchbaaWar
namespace Go.Proofs.Ytmfkjilndpchbaa.Ap
open Go Go.Ab Go.Pu Go.Proofs.Ytmfkjilndpchbaa.Df
open Go.Proofs.Ytmfkjilndpchbaa.Gr (Sy Ru Valid)
theorem kind_ok {g:Ty.E8}(hv:Valid g){l:List Int}(hl:l.length≤1000):Ok (P.F3 g l) fun k=>(k=0∧Rt g.Rules l)∨(k=1∧Lf g.Rules l∧¬Rt g.Rules l)∨(k=2∧¬Rt g.Rules l):=by
 unfold P.F3
 refine Ok.bind (aM (fun i (s:Bool×Bool)=>(s.1=true↔Rt (g.Rules.take i) l)∧(s.2=true↔Lf (g.Rules.take i) l)) (Q:=fun s=>(s.1=true↔Rt g.Rules l)∧(s.2=true↔Lf g.Rules l)) ⟨by simp [Rt],by simp [Lf]⟩ (fun i r s hr hs=>?_) fun s hs=>by rwa [List.take_length] at hs) fun s hs=>?_
 ·have hm:=List.mem_of_getElem? hr
  have hrl:=hv.rgt r hm
  have htk:g.Rules.take (i+1)=g.Rules.take i++ [r]:=by rw [List.take_add_one,hr];rfl
  unfold P.F3.b0
  rw [cN _ _ (by omega),Option.bind_some]
  refine .ite (fun hn=>.some ?_) fun hy=>?_
  ·have hn:r.Left∉l:=by simpa using hn
   dsimp only
   rw [htk]
   refine⟨hs.1.trans ⟨fun h q hq=>?_,fun h q hq=>h q (List.mem_append_left _ hq)⟩,hs.2.trans ⟨fun h q hq=>?_,fun h q hq=>h q (List.mem_append_left _ hq)⟩⟩
   ·rcases List.mem_append.1 hq with hq|hq
    ·exact h q hq
    ·rw [List.mem_singleton] at hq;subst hq;exact fun e=>absurd e hn
   ·rcases List.mem_append.1 hq with hq|hq
    ·exact h q hq
    ·rw [List.mem_singleton] at hq;subst hq;exact fun e=>absurd e hn
  ·have hy:r.Left∈l:=by simpa using hy
   refine Ok.bind (aM (fun j (t:Bool×Bool)=>(t.1=true↔(s.1=true∧∀(i:Nat) x,i<j→r.Right[i]? =some x→x.Term=false→x.N∈l→i+1=r.Right.length))∧(t.2=true↔(s.2=true∧∀(i:Nat) x,i<j→r.Right[i]? =some x→x.Term=false→x.N∈l→i=0)))
    (Q:=fun t=>(t.1=true↔(s.1=true∧∀(i:Nat) x,r.Right[i]? =some x→x.Term=false→x.N∈l→i+1=r.Right.length))∧(t.2=true↔(s.2=true∧∀(i:Nat) x,r.Right[i]? =some x→x.Term=false→x.N∈l→i=0)))
    ⟨by simp,by simp⟩ (fun j x t hx ht=>?_) fun t ht=>?_) fun t ht=>.some ?_
   ·have hj:=(List.getElem?_eq_some_iff.1 hx).1
    unfold P.F3.b1
    refine Ok.bind (Q:=fun b=>b=true↔¬(x.Term=false∧x.N∈l)) (.ite (fun h=>.some (by simp [h])) fun h=>?_) fun b hb=>.ite (fun hbt=>.some ?_) fun hbf=>.some ?_
    ·rw [cN _ _ (by omega),Option.bind_some]
     exact .some (by simp [h])
    ·have:=hb.1 hbt
     dsimp only
     refine⟨ht.1.trans ⟨fun⟨h1,h2⟩=>⟨h1,fun i y hi hy=>?_⟩,fun⟨h1,h2⟩=>⟨h1,fun i y hi=>h2 i y (by omega)⟩⟩,ht.2.trans ⟨fun⟨h1,h2⟩=>⟨h1,fun i y hi hy=>?_⟩,fun⟨h1,h2⟩=>⟨h1,fun i y hi=>h2 i y (by omega)⟩⟩⟩
     ·rcases Nat.lt_succ_iff_lt_or_eq.1 hi with e|rfl
      ·exact h2 i y e hy
      ·rw [hx] at hy;cases hy;exact fun a b=>absurd ⟨a,b⟩ this
     ·rcases Nat.lt_succ_iff_lt_or_eq.1 hi with e|rfl
      ·exact h2 i y e hy
      ·rw [hx] at hy;cases hy;exact fun a b=>absurd ⟨a,b⟩ this
    ·have hxx:x.Term=false∧x.N∈l:=Classical.byContradiction fun q=>hbf (hb.2 q)
     dsimp only
     rw [aN,Bool.and_eq_true,Bool.and_eq_true,ht.1,ht.2,decide_eq_true_eq,decide_eq_true_eq]
     constructor
     ·constructor
      ·rintro⟨⟨h1,h2⟩,h3⟩
       refine⟨h1,fun i y hi hy=>?_⟩
       rcases Nat.lt_succ_iff_lt_or_eq.1 hi with e|rfl
       ·exact h2 i y e hy
       ·intro _ _;omega
      ·rintro⟨h1,h2⟩
       refine⟨⟨h1,fun i y hi=>h2 i y (by omega)⟩,?_⟩
       have:=h2 j x (by omega) hx hxx.1 hxx.2
       omega
     ·constructor
      ·rintro⟨⟨h1,h2⟩,h3⟩
       refine⟨h1,fun i y hi hy=>?_⟩
       rcases Nat.lt_succ_iff_lt_or_eq.1 hi with e|rfl
       ·exact h2 i y e hy
       ·intro _ _;omega
      ·rintro⟨h1,h2⟩
       refine⟨⟨h1,fun i y hi=>h2 i y (by omega)⟩,?_⟩
       have:=h2 j x (by omega) hx hxx.1 hxx.2
       omega
   ·refine⟨ht.1.trans (and_congr Iff.rfl ⟨fun h i y hy=>h i y (List.getElem?_eq_some_iff.1 hy).1 hy,fun h i y _=>h i y⟩),ht.2.trans (and_congr Iff.rfl ⟨fun h i y hy=>h i y (List.getElem?_eq_some_iff.1 hy).1 hy,fun h i y _=>h i y⟩)⟩
   ·dsimp only
    rw [htk]
    refine⟨ht.1.trans ?_,ht.2.trans ?_⟩
    ·rw [hs.1]
     constructor
     ·rintro⟨h1,h2⟩ q hq
      rcases List.mem_append.1 hq with hq|hq
      ·exact h1 q hq
      ·rw [List.mem_singleton] at hq;subst hq;exact fun _=>h2
     ·intro h
      exact⟨fun q hq=>h q (List.mem_append_left _ hq),h r (List.mem_append_right _ (List.mem_singleton.2 rfl)) hy⟩
    ·rw [hs.2]
     constructor
     ·rintro⟨h1,h2⟩ q hq
      rcases List.mem_append.1 hq with hq|hq
      ·exact h1 q hq
      ·rw [List.mem_singleton] at hq;subst hq;exact fun _=>h2
     ·intro h
      exact⟨fun q hq=>h q (List.mem_append_left _ hq),h r (List.mem_append_right _ (List.mem_singleton.2 rfl)) hy⟩
 ·refine .ite (fun h=>.some (.inl ⟨rfl,hs.1.1 h⟩)) fun h=>.ite (fun h2=>.some (.inr (.inl ⟨rfl,hs.2.1 h2,fun q=>h (hs.1.2 q)⟩))) fun _=>.some (.inr (.inr ⟨rfl,fun q=>h (hs.1.2 q)⟩))
structure RelV (g:Ty.E8)(M:List (List Bool)):Prop where
 dim:Dim M g.Nons g.Nons
 rf:∀a,0≤a→a<g.Nons→el2 M a a=true
 tr:∀a b c,0≤a→a<g.Nons→0≤b→b<g.Nons→0≤c→c<g.Nons→el2 M a b=true→el2 M b c=true→el2 M a c=true
 ed:∀r∈g.Rules,∀s∈r.Right,s.Term=false→el2 M r.Left s.N=true
 cl:∀p:Int→Prop,(∀r∈g.Rules,p r.Left→∀s∈r.Right,s.Term=false→p s.N)→∀a b,0≤a→a<g.Nons→0≤b→b<g.Nons→el2 M a b=true→p a→p b
theorem matrix_ok {g:Ty.E8}(hv:Valid g):
 Ok ((Pu.mk 24 g.Nons g.Nons ([]:List Bool)).bind fun x2=>(Pu.ranO (x2.length:Int)).bind fun x4=>(Pu.forP (P.A9.b0 g) 0 x4 x2).bind fun y1=>(Pu.forP (P.A9.b1) 0 g.Rules y1).bind fun y2=>(Pu.ranO (y2.length:Int)).bind fun x14=>Pu.forP (P.A9.b3) 0 x14 y2) (RelV g):=by
 have n1:=hv.n1;have n2:=hv.n2
 rw [fl (by omega) (by omega) (by omega),Option.bind_some,bN (by simp;omega),Option.bind_some,List.length_replicate]
 have hnn:((g.Nons.toNat:Nat):Int)=g.Nons:=by omega
 rw [hnn]
 refine Ok.bind (aM (fun i (s:List (List Bool))=>(s.length:Int)=g.Nons∧∀j:Int,0≤j→j<i→((el s j).length:Int)=g.Nons∧∀b,0≤b→b<g.Nons→(el2 s j b=true↔j=b))
  (Q:=fun s=>Dim s g.Nons g.Nons∧∀a b,0≤a→a<g.Nons→0≤b→b<g.Nons→(el2 s a b=true↔a=b)) ⟨by simp;omega,fun j a b=>by omega⟩ (fun i x s hx hs=>?_) fun s hs=>?_) fun M0 ⟨d0,e0⟩=>?_
 ·obtain⟨rfl,hi⟩:=ce hx
  obtain⟨h1,h2⟩:=hs
  unfold P.A9.b0
  rw [fl (by omega) (by omega) (by omega),Option.bind_some,aG (by omega) (by omega),Option.bind_some,aG (by omega) (by rw [bj];omega),Option.bind_some,dU (by omega) (by omega),aG (by omega) (by simp;omega),Option.bind_some]
  refine .some ⟨by simp [h1],fun j j0 j1=>?_⟩
  rcases(by omega:j<(i:Int)∨j=(i:Int)) with e|rfl
  ·have e1:∀r1 r2,el (Pu.st (Pu.st s (i:Int) r1) (i:Int) r2) j=el s j:=fun r1 r2=>by
    rw [jI (by omega) (by rw [bj];omega) j0 (by omega),jI (by omega) (by omega) j0 (by omega)]
   simp only [el2,e1]
   exact h2 j j0 e
  ·simp only [el2]
   rw [dU (by omega) (by rw [bj];omega)]
   refine⟨by simp;omega,fun b b0 b1=>?_⟩
   rw [cF (by omega) (by simp;omega) b0]
   split
   ·simp;omega
   ·rw [eR b0 (by omega)];simp;omega
 ·obtain⟨h1,h2⟩:=hs
  rw [ba] at h2
  exact⟨⟨h1,fun i a b=>(h2 i a (by omega)).1⟩,fun a b a0 a1 b0 b1=>(h2 a a0 (by omega)).2 b b0 b1⟩
 refine Ok.bind (aM (fun i (s:List (List Bool))=>Dim s g.Nons g.Nons∧∀a b,0≤a→a<g.Nons→0≤b→b<g.Nons→(el2 s a b=true↔a=b∨∃r∈g.Rules.take i,r.Left=a∧∃y∈r.Right,y.Term=false∧y.N=b))
  (Q:=fun s=>Dim s g.Nons g.Nons∧∀a b,0≤a→a<g.Nons→0≤b→b<g.Nons→(el2 s a b=true↔a=b∨∃r∈g.Rules,r.Left=a∧∃y∈r.Right,y.Term=false∧y.N=b)) ⟨d0,fun a b a0 a1 b0 b1=>by rw [e0 a b a0 a1 b0 b1];simp⟩ (fun i r s hr hs=>?_) fun s hs=>by rwa [List.take_length] at hs) fun M1 ⟨d1,e1⟩=>?_
 ·have hm:=List.mem_of_getElem? hr
  have hl:=hv.lft r hm
  obtain⟨h1,h2⟩:=hs
  unfold P.A9.b1
  refine Ok.bind (aM (fun j (t:List (List Bool))=>Dim t g.Nons g.Nons∧∀a b,0≤a→a<g.Nons→0≤b→b<g.Nons→(el2 t a b=true↔el2 s a b=true∨(r.Left=a∧∃y∈r.Right.take j,y.Term=false∧y.N=b)))
   (Q:=fun t=>Dim t g.Nons g.Nons∧∀a b,0≤a→a<g.Nons→0≤b→b<g.Nons→(el2 t a b=true↔el2 s a b=true∨(r.Left=a∧∃y∈r.Right,y.Term=false∧y.N=b))) ⟨h1,fun a b _ _ _ _=>by simp⟩ (fun j y t hy ht=>?_) fun t ht=>by rwa [List.take_length] at ht) fun t ht=>.some ⟨ht.1,fun a b a0 a1 b0 b1=>?_⟩
  ·have hys:=hv.sym r hm y (List.mem_of_getElem? hy)
   have htk:r.Right.take (j+1)=r.Right.take j++ [y]:=by rw [List.take_add_one,hy];rfl
   obtain⟨t1,t2⟩:=ht
   unfold P.A9.b2
   refine Ok.bind (Q:=fun t'=>Dim t' g.Nons g.Nons∧∀a b,0≤a→a<g.Nons→0≤b→b<g.Nons→(el2 t' a b=true↔el2 s a b=true∨(r.Left=a∧∃y∈r.Right.take (j+1),y.Term=false∧y.N=b))) (.ite (fun hyt=>?_) fun hyt=>.some ⟨t1,fun a b a0 a1 b0 b1=>?_⟩) fun t' h=>.some h
   ·have hyt:y.Term=false:=by simpa using hyt
    have hyn:=hys.2.2 hyt
    rw [t1.ix hl.1 hl.2,Option.bind_some,t1.ix2 hl.1 hl.2 hys.1 hyn,Option.bind_some]
    refine .some ⟨t1.st2 hl.1 hl.2,fun a b a0 a1 b0 b1=>?_⟩
    show el2 (Pu.st2 t r.Left y.N true) a b=true↔_
    rw [t1.el_st2 hl.1 hl.2 hys.1 hyn a0 b0,htk]
    by_cases q:a=r.Left∧b=y.N
    ·obtain⟨rfl,rfl⟩:=q
     simp [hyt]
    ·rw [if_neg q,t2 a b a0 a1 b0 b1]
     constructor
     ·rintro(h|⟨e,z,hz,h⟩)
      ·exact .inl h
      ·exact .inr ⟨e,z,List.mem_append_left _ hz,h⟩
     ·rintro(h|⟨e,z,hz,h⟩)
      ·exact .inl h
      ·rcases List.mem_append.1 hz with hz|hz
       ·exact .inr ⟨e,z,hz,h⟩
       ·rw [List.mem_singleton] at hz;subst hz;exact absurd ⟨e.symm,h.2.symm⟩ q
   ·have hyt:y.Term=true:=by simpa using hyt
    rw [t2 a b a0 a1 b0 b1,htk]
    refine or_congr Iff.rfl (and_congr Iff.rfl ⟨fun⟨z,hz,h⟩=>⟨z,List.mem_append_left _ hz,h⟩,fun⟨z,hz,h⟩=>?_⟩)
    rcases List.mem_append.1 hz with hz|hz
    ·exact⟨z,hz,h⟩
    ·rw [List.mem_singleton] at hz;subst hz;rw [hyt] at h;cases h.1
  ·rw [ht.2 a b a0 a1 b0 b1,h2 a b a0 a1 b0 b1,List.take_add_one,hr,Option.toList_some,or_assoc]
   refine or_congr Iff.rfl ?_
   constructor
   ·rintro(⟨q,hq,h⟩|h)
    ·exact⟨q,List.mem_append_left _ hq,h⟩
    ·exact⟨r,List.mem_append_right _ (List.mem_singleton.2 rfl),h⟩
   ·rintro⟨q,hq,h⟩
    rcases List.mem_append.1 hq with hq|hq
    ·exact .inl ⟨q,hq,h⟩
    ·rw [List.mem_singleton] at hq;subst hq;exact .inr h
 rw [d1.1,bN (by omega),Option.bind_some]
 have hw:=war_ok (n:=g.Nons.toNat) (by omega) (M0:=M1) (by rw [hnn];exact d1)
 rw [hnn] at hw
 have eb:P.A9.b3=war0:=rfl
 rw [eb]
 refine hw.mono fun M ⟨dM,hM⟩=>?_
 have hE:∀a b:Int,0≤a→a<g.Nons→0≤b→b<g.Nons→el2 M1 a b=true→el2 M a b=true:=fun a b a0 a1 b0 b1 h=>by
  have:=(hM a.toNat b.toNat (by omega) (by omega)).2 (.single ⟨by omega,by omega,by rw [Int.toNat_of_nonneg a0,Int.toNat_of_nonneg b0];exact h⟩)
  rwa [Int.toNat_of_nonneg a0,Int.toNat_of_nonneg b0] at this
 refine⟨dM,fun a a0 a1=>hE a a a0 a1 a0 a1 ((e1 a a a0 a1 a0 a1).2 (.inl rfl)),fun a b c a0 a1 b0 b1 c0 c1 h k=>?_,fun r hr y hy ht=>?_,fun p hp a b a0 a1 b0 b1 h pa=>?_⟩
 ·have h1:=(hM a.toNat b.toNat (by omega) (by omega)).1 (by rwa [Int.toNat_of_nonneg a0,Int.toNat_of_nonneg b0])
  have h2:=(hM b.toNat c.toNat (by omega) (by omega)).1 (by rwa [Int.toNat_of_nonneg b0,Int.toNat_of_nonneg c0])
  have:=(hM a.toNat c.toNat (by omega) (by omega)).2 (Gr.tg_trans h1 h2)
  rwa [Int.toNat_of_nonneg a0,Int.toNat_of_nonneg c0] at this
 ·have hl:=hv.lft r hr
  have hs:=hv.sym r hr y hy
  exact hE _ _ hl.1 hl.2 hs.1 (hs.2.2 ht) ((e1 _ _ hl.1 hl.2 hs.1 (hs.2.2 ht)).2 (.inr ⟨r,hr,rfl,y,hy,ht,rfl⟩))
 ·have h1:=(hM a.toNat b.toNat (by omega) (by omega)).1 (by rwa [Int.toNat_of_nonneg a0,Int.toNat_of_nonneg b0])
  have step:∀x y:Nat,(x<g.Nons.toNat∧y<g.Nons.toNat∧el2 M1 (x:Int) (y:Int)=true)→p x→p y:=fun x y ⟨hx,hy,hxy⟩ px=>by
   rcases(e1 x y (by omega) (by omega) (by omega) (by omega)).1 hxy with e|⟨r,hr,e,z,hz,zt,zn⟩
   ·rw [←e];exact px
   ·rw [←zn];exact hp r hr (by rw [e];exact px) z hz zt
  have key:p (a.toNat:Int)→p (b.toNat:Int):=by
   intro pa
   generalize b.toNat=y at h1
   induction h1 with
   | single w=>exact step _ _ w pa
   | tail _ w ih=>exact step _ _ w ih
  rw [Int.toNat_of_nonneg a0,Int.toNat_of_nonneg b0] at key
  exact key pa
end Go.Proofs.Ytmfkjilndpchbaa.Ap
