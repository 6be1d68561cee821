import Derived.Test.YtmfkjilndpchbaaAp7
import Derived.Test.YtmfkjilndpchbaaMin
namespace Go.Proofs.Ytmfkjilndpchbaa.Ap
open Go Go.Ab Go.Pu Go.Proofs.Ytmfkjilndpchbaa.Df
open Go.Proofs.Ytmfkjilndpchbaa.Gr (Sy Ru Valid)
def Cmp (g:Ty.E8)(M:List (List Bool))(c:Ty.B6):Prop:=
 (∃a,0≤a∧a<g.Nons∧∀b,b∈c.Nons↔0≤b∧b<g.Nons∧el2 M a b=true∧el2 M b a=true)∧c.Nons.length≤10∧
   ((c.Kind=0∧Rt g.Rules c.Nons)∨(c.Kind=1∧Lf g.Rules c.Nons∧¬Rt g.Rules c.Nons)∨(c.Kind=2∧¬Rt g.Rules c.Nons))
theorem comps_ok {g:Ty.E8}(hv:Valid g):Ok (P.A9 g) fun r=>r.2=0∧∃M,RelV g M∧(∀c∈r.1,Cmp g M c)∧∀b,0≤b→b<g.Nons→∃c∈r.1,b∈c.Nons:=by
 have n1:=hv.n1;have n2:=hv.n2
 unfold P.A9
 rw [Gr.check_ok hv,Option.bind_some,if_neg (by simp)]
 have hm:=matrix_ok hv
 simp only [Ok] at hm
 obtain⟨M,e,hM⟩:=hm
 have ee:∀{β:Type} (f:List (List Bool)→Option β),((Pu.mk 24 g.Nons g.Nons ([]:List Bool)).bind fun x2=>(Pu.ranO (x2.length:Int)).bind fun x4=>(Pu.forP (P.A9.b0 g) 0 x4 x2).bind fun y1=>(Pu.forP (P.A9.b1) 0 g.Rules y1).bind fun y2=>(Pu.ranO (y2.length:Int)).bind fun x14=>(Pu.forP (P.A9.b3) 0 x14 y2).bind f)=f M:=fun f=>by
  have:=congrArg (fun z=>Option.bind z f) e
  simpa [Option.bind_assoc] using this
 rw [ee]
 have hd:=hM.dim
 rw [fl (by omega) (by omega) (by omega),Option.bind_some,hd.1,bN (by omega),Option.bind_some]
 refine Ok.bind (aM (fun i (s:List Ty.B6×List Bool)=>s.1.length≤i∧(s.2.length:Int)=g.Nons∧(∀c∈s.1,Cmp g M c)∧(∀b,0≤b→b<g.Nons→el s.2 b=true→∃c∈s.1,b∈c.Nons)∧∀b:Int,0≤b→b<i→el s.2 b=true)
  (Q:=fun s=>(∀c∈s.1,Cmp g M c)∧∀b,0≤b→b<g.Nons→∃c∈s.1,b∈c.Nons) ⟨by simp,by simp;omega,by simp,fun b b0 b1 h=>?_,fun b a c=>by omega⟩ (fun i x s hx hs=>?_) fun s hs=>?_) fun s hs=>.some ⟨rfl,M,hM,hs⟩
 ·rw [eR b0 (by omega)] at h;cases h
 ·obtain⟨rfl,hi⟩:=ce hx
  obtain⟨out,done⟩:=s
  obtain⟨s1,s2,s3,s4,s5⟩:=hs
  dsimp only at s1 s2 s3 s4 s5
  unfold P.A9.b6
  dsimp only
  rw [aG (by omega) (by omega),Option.bind_some]
  refine .ite (fun hdn=>.some ⟨by dsimp only;omega,s2,s3,s4,fun b b0 b1=>?_⟩) fun hdn=>?_
  ·rcases(by omega:b<(i:Int)∨b=(i:Int)) with e|rfl
   ·exact s5 b b0 e
   ·exact hdn
  ·rw [hd.1,bN (by omega),Option.bind_some]
   refine Ok.bind (aM (fun j (q:List Bool×List Int)=>(q.1.length:Int)=g.Nons∧q.2.length≤j∧(∀b,b∈q.2↔0≤b∧b<j∧el2 M (i:Int) b=true∧el2 M b (i:Int)=true)∧(∀b,0≤b→b<g.Nons→(el q.1 b=true↔el done b=true∨b∈q.2)))
    (Q:=fun q=>(q.1.length:Int)=g.Nons∧q.2.length≤10∧(∀b,b∈q.2↔0≤b∧b<g.Nons∧el2 M (i:Int) b=true∧el2 M b (i:Int)=true)∧(∀b,0≤b→b<g.Nons→(el q.1 b=true↔el done b=true∨b∈q.2)))
    ⟨s2,by simp,fun b=>by simp;omega,by simp⟩ (fun j y q hy hq=>?_) fun q hq=>?_) fun q hq=>?_
   ·obtain⟨rfl,hj⟩:=ce hy
    obtain⟨q1,q2,q3,q4⟩:=hq
    unfold P.A9.b7
    rw [hd.ix (by omega) hi,Option.bind_some,hd.ix2 (by omega) hi (by omega) hj,Option.bind_some]
    refine Ok.bind (Q:=fun b=>b=true↔el2 M (i:Int) (j:Int)=true∧el2 M (j:Int) (i:Int)=true) (.ite (fun h=>?_) fun h=>.some ?_) fun b hb=>?_
    ·rw [hd.ix (by omega) hj,Option.bind_some,hd.ix2 (by omega) hj (by omega) hi,Option.bind_some]
     exact .some (by simp [h])
    ·simp only [Bool.not_eq_true] at h
     simp [h]
    ·have key:∀b:Int,(0≤b∧b<((j+1:Nat):Int)∧el2 M (i:Int) b=true∧el2 M b (i:Int)=true)↔(0≤b∧b<(j:Int)∧el2 M (i:Int) b=true∧el2 M b (i:Int)=true)∨(b=(j:Int)∧el2 M (i:Int) (j:Int)=true∧el2 M (j:Int) (i:Int)=true):=fun b=>by
      constructor
      ·rintro⟨a1,a2,a3⟩
       rcases(by omega:b<(j:Int)∨b=(j:Int)) with e|rfl
       ·exact .inl ⟨a1,e,a3⟩
       ·exact .inr ⟨rfl,a3⟩
      ·rintro(⟨a1,a2,a3⟩|⟨rfl,a3⟩)
       ·exact⟨a1,by omega,a3⟩
       ·exact⟨by omega,by omega,a3⟩
     refine Ok.bind (Q:=fun q'=>(q'.1.length:Int)=g.Nons∧q'.2.length≤j+1∧(∀b,b∈q'.2↔0≤b∧b<((j+1:Nat):Int)∧el2 M (i:Int) b=true∧el2 M b (i:Int)=true)∧(∀b,0≤b→b<g.Nons→(el q'.1 b=true↔el done b=true∨b∈q'.2))) (.ite (fun h=>?_) fun h=>.some ⟨q1,by dsimp only;omega,fun b=>?_,q4⟩) fun q' h=>.some h
     ·have h:=hb.1 h
      rw [bk (by simp only [List.length_singleton];omega),Option.bind_some,aG (by omega) (by omega),Option.bind_some]
      refine .some ⟨by simp [q1],by simp;omega,fun b=>?_,fun b b0 b1=>?_⟩
      ·dsimp only
       rw [List.mem_append,List.mem_singleton,q3,key]
       exact or_congr Iff.rfl ⟨fun e=>⟨e,h⟩,fun e=>e.1⟩
      ·dsimp only
       rw [cF (by omega) (by omega) b0,List.mem_append,List.mem_singleton]
       split
       ·simp [*]
       ·rw [q4 b b0 b1];simp [*]
     ·dsimp only
      rw [q3,key]
      exact⟨.inl,fun z=>z.elim id fun z=>absurd (hb.2 z.2) h⟩
   ·rw [ba] at hq
    obtain⟨q1,q2,q3,q4⟩:=hq
    exact⟨q1,by omega,fun b=>by rw [q3,show((g.Nons.toNat:Nat):Int)=g.Nons by omega],q4⟩
   ·obtain⟨q1,q2,q3,q4⟩:=hq
    refine(kind_ok hv (l:=q.2) (by omega)).bind fun kd hkd=>?_
    rw [bk (by simp only [List.length_singleton];omega),Option.bind_some]
    have hc:Cmp g M ⟨kd,q.2⟩:=⟨⟨i,by omega,hi,q3⟩,q2,hkd⟩
    refine .some ⟨by simp;omega,q1,fun c hc'=>?_,fun b b0 b1 hb=>?_,fun b b0 b1=>?_⟩
    ·rcases List.mem_append.1 hc' with h|h
     ·exact s3 c h
     ·rw [List.mem_singleton] at h;subst h;exact hc
    ·rcases(q4 b b0 b1).1 hb with h|h
     ·obtain⟨c,hc1,hc2⟩:=s4 b b0 b1 h
      exact⟨c,List.mem_append_left _ hc1,hc2⟩
     ·exact⟨⟨kd,q.2⟩,List.mem_append_right _ (List.mem_singleton.2 rfl),h⟩
    ·dsimp only
     rw [q4 b b0 (by omega)]
     rcases(by omega:b<(i:Int)∨b=(i:Int)) with e|rfl
     ·exact .inl (s5 b b0 e)
     ·exact .inr ((q3 _).2 ⟨b0,hi,hM.rf _ b0 hi,hM.rf _ b0 hi⟩)
 ·rw [ba] at hs
  obtain⟨s1,s2,s3,s4,s5⟩:=hs
  exact⟨s3,fun b b0 b1=>s4 b b0 b1 (s5 b b0 (by omega))⟩
theorem ofs_ok {g:Ty.E8}(hv:Valid g){M:List (List Bool)}{l:List Ty.B6}(hl:∀c∈l,Cmp g M c)(hc:∀b,0≤b→b<g.Nons→∃c∈l,b∈c.Nons):
 Ok (Pu.forP P.E5.b0 0 l (List.replicate g.Nons.toNat (Ty.B6.mk 0 []))) fun o=>(o.length:Int)=g.Nons∧∀a,0≤a→a<g.Nons→Cmp g M (el o a)∧a∈(el o a).Nons:=by
 have n1:=hv.n1
 refine aM (fun i (s:List Ty.B6)=>(s.length:Int)=g.Nons∧∀a,0≤a→a<g.Nons→(∃c∈l.take i,a∈c.Nons)→Cmp g M (el s a)∧a∈(el s a).Nons) ⟨by simp;omega,by simp⟩ (fun i c s hcc hs=>?_) fun s hs=>⟨hs.1,fun a a0 a1=>hs.2 a a0 a1 (by rw [List.take_length];exact hc a a0 a1)⟩
 have hcm:=hl c (List.mem_of_getElem? hcc)
 obtain⟨h1,h2⟩:=hs
 unfold P.E5.b0
 refine Ok.bind (aM (fun j (t:List Ty.B6)=>(t.length:Int)=g.Nons∧∀a,0≤a→a<g.Nons→((∃c∈l.take i,a∈c.Nons)∨a∈c.Nons.take j)→Cmp g M (el t a)∧a∈(el t a).Nons)
  (Q:=fun t=>(t.length:Int)=g.Nons∧∀a,0≤a→a<g.Nons→((∃c∈l.take i,a∈c.Nons)∨a∈c.Nons)→Cmp g M (el t a)∧a∈(el t a).Nons) ⟨h1,fun a a0 a1 h=>h2 a a0 a1 (by simpa using h)⟩ (fun j x t hx ht=>?_) fun t ht=>by rwa [List.take_length] at ht) fun t ht=>.some ⟨ht.1,fun a a0 a1 h=>ht.2 a a0 a1 ?_⟩
 ·obtain⟨t1,t2⟩:=ht
  have hxm:=List.mem_of_getElem? hx
  obtain⟨⟨_,_,_,hr⟩,_⟩:=hcm
  have hxr:=(hr x).1 hxm
  unfold P.E5.b1
  rw [aG hxr.1 (by omega),Option.bind_some]
  refine .some ⟨by simp [t1],fun a a0 a1 h=>?_⟩
  rw [cF hxr.1 (by omega) a0]
  split
  ·subst_vars;exact⟨hl c (List.mem_of_getElem? hcc),hxm⟩
  ·refine t2 a a0 a1 ?_
   rcases h with h|h
   ·exact .inl h
   ·rw [List.take_add_one,hx,Option.toList_some] at h
    rcases List.mem_append.1 h with h|h
    ·exact .inr h
    ·rw [List.mem_singleton] at h;contradiction
 ·rw [List.take_add_one,hcc,Option.toList_some] at h
  obtain⟨c',h,h'⟩:=h
  rcases List.mem_append.1 h with h|h
  ·exact .inl ⟨c',h,h'⟩
  ·rw [List.mem_singleton] at h;subst h;exact .inr h'
def Blw (g:Ty.E8)(b:List Bool):Prop:=(b.length:Int)=g.Nons∧el b g.Start=true∧∀r∈g.Rules,el b r.Left=true→∀y∈r.Right,y.Term=false→el b y.N=true
theorem fy {g:Ty.E8}(hv:Valid g){φ:Nat}(hφ:1000≤φ):Ok (P.E7 φ g) (Blw g):=by
 have n1:=hv.n1;have n2:=hv.n2;have s1:=hv.s1;have s2:=hv.s2
 unfold P.E7
 rw [fl (by omega) (by omega) (by omega),Option.bind_some,aG s1 (by simp;omega),Option.bind_some]
 refine Ok.bind (bF (fun s=>(s.1.length:Int)=g.Nons∧el s.1 g.Start=true∧(s.2=false→Blw g s.1)) (fun s=>2*s.1.count false+s.2.toNat) (Q:=fun r=>∃s,r= .out s∧Blw g s.1)
  ⟨by simp;omega,by rw [dU s1 (by simp;omega)],fun h=>by cases h⟩ (fun s hs=>?_) ?_) fun r hr=>?_
 ·obtain⟨b,ag⟩:=s
  obtain⟨h1,h2,h3⟩:=hs
  dsimp only at h1 h2 h3
  unfold P.E7.b0
  dsimp only
  refine .ite (fun ha=>?_) fun ha=>.some ⟨_,rfl,h3 (by simpa using ha)⟩
  refine Ok.bind (aM (fun i (q:List Bool×Bool)=>(q.1.length:Int)=g.Nons∧el q.1 g.Start=true∧q.1.count false≤b.count false∧(q.2=true→q.1.count false<b.count false)∧(q.2=false→∀r∈g.Rules.take i,el q.1 r.Left=true→∀y∈r.Right,y.Term=false→el q.1 y.N=true))
   (Q:=fun q=>(q.1.length:Int)=g.Nons∧el q.1 g.Start=true∧q.1.count false≤b.count false∧(q.2=true→q.1.count false<b.count false)∧(q.2=false→∀r∈g.Rules,el q.1 r.Left=true→∀y∈r.Right,y.Term=false→el q.1 y.N=true))
   ⟨h1,h2,Nat.le_refl _,fun h=>(by cases h),by simp⟩ (fun i r q hr hq=>?_) fun q hq=>by rwa [List.take_length] at hq) fun q hq=>.some ?_
  ·have hrm:=List.mem_of_getElem? hr
   have hlf:=hv.lft r hrm
   obtain⟨q1,q2,q3,q4,q5⟩:=hq
   unfold P.E7.b1
   refine Ok.bind (aM (fun j (t:List Bool×Bool)=>(t.1.length:Int)=g.Nons∧el t.1 g.Start=true∧t.1.count false≤b.count false∧(t.2=true→t.1.count false<b.count false)∧(t.2=false→t=q∧(el q.1 r.Left=true→∀y∈r.Right.take j,y.Term=false→el q.1 y.N=true)))
    (Q:=fun t=>(t.1.length:Int)=g.Nons∧el t.1 g.Start=true∧t.1.count false≤b.count false∧(t.2=true→t.1.count false<b.count false)∧(t.2=false→t=q∧(el q.1 r.Left=true→∀y∈r.Right,y.Term=false→el q.1 y.N=true)))
    ⟨q1,q2,q3,q4,fun _=>⟨rfl,by simp⟩⟩ (fun j y t hy ht=>?_) fun t ht=>by rwa [List.take_length] at ht) fun t ht=>.some ⟨ht.1,ht.2.1,ht.2.2.1,ht.2.2.2.1,fun h=>?_⟩
   ·have hys:=hv.sym r hrm y (List.mem_of_getElem? hy)
    obtain⟨t1,t2,t3,t4,t5⟩:=ht
    have htk:r.Right.take (j+1)=r.Right.take j++ [y]:=by rw [List.take_add_one,hy];rfl
    unfold P.E7.b2
    rw [aG hlf.1 (by omega),Option.bind_some]
    refine Ok.bind (Q:=fun z=>z=true↔(el t.1 r.Left=true∧y.Term=false∧el t.1 y.N=false)) (.ite (fun h=>?_) fun h=>.some ?_) fun z hz=>?_
    ·simp only [Bool.and_eq_true,Bool.not_eq_true'] at h
     rw [aG hys.1 (by have:=hys.2.2 h.2;omega),Option.bind_some]
     exact .some (by simp [h])
    ·simp only [Bool.and_eq_true,Bool.not_eq_true'] at h
     exact⟨fun e=>(by cases e),fun e=>absurd ⟨e.1,e.2.1⟩ h⟩
    ·refine Ok.bind (Q:=fun t'=>(t'.1.length:Int)=g.Nons∧el t'.1 g.Start=true∧t'.1.count false≤b.count false∧(t'.2=true→t'.1.count false<b.count false)∧(t'.2=false→t'=q∧(el q.1 r.Left=true→∀z∈r.Right.take (j+1),z.Term=false→el q.1 z.N=true))) (.ite (fun h=>?_) fun h=>.some ⟨t1,t2,t3,t4,fun e=>?_⟩) fun t' h=>.some h
     ·obtain⟨a1,a2,a3⟩:=hz.1 h
      have hyn:=hys.2.2 a2
      rw [aG hys.1 (by omega),Option.bind_some]
      have hcnt:(Pu.st t.1 y.N true).count false+1=t.1.count false:=by
       unfold Pu.st
       have hlt:y.N.toNat<t.1.length:=by omega
       have e1:t.1[y.N.toNat]=false:=by
        have:el t.1 y.N=t.1[y.N.toNat]:=by unfold el;rw [List.getElem?_eq_getElem hlt];rfl
        rw [←this];exact a3
       rw [List.count_set hlt,e1]
       have:0<t.1.count false:=List.count_pos_iff.2 (e1▸List.getElem_mem hlt)
       simp;omega
      refine .some ⟨by simp [t1],?_,by dsimp only;omega,fun _=>by dsimp only;omega,fun e=>by cases e⟩
      dsimp only
      rw [cF hys.1 (by omega) s1]
      split
      ·rfl
      ·exact t2
     ·obtain⟨e1,e2⟩:=t5 e
      have e1':t=q:=e1
      refine⟨e1,fun hL z hzz ht=>?_⟩
      rw [htk] at hzz
      rcases List.mem_append.1 hzz with h'|h'
      ·exact e2 hL z h' ht
      ·rw [List.mem_singleton] at h';subst h'
       rw [←e1'] at hL ⊢
       cases hh:el t.1 z.N with
       | true=>rfl
       | false=>exact absurd (hz.2 ⟨hL,ht,hh⟩) h
   ·obtain⟨e1,e2⟩:=ht.2.2.2.2 h
    dsimp only at h ⊢
    have e1':t=q:=e1
    rw [e1'] at h ⊢
    intro r' hr'
    rw [List.take_add_one,hr,Option.toList_some] at hr'
    rcases List.mem_append.1 hr' with hr'|hr'
    ·exact q5 h r' hr'
    ·rw [List.mem_singleton] at hr';subst hr';exact e2
  ·obtain⟨q1,q2,q3,q4,q5⟩:=hq
   refine⟨⟨q1,q2,fun e=>⟨q1,q2,q5 e⟩⟩,?_⟩
   dsimp only
   rw [ha]
   cases hh:q.2 with
   | true=>have:=q4 hh;simp only [Bool.toNat_true];omega
   | false=>simp only [Bool.toNat_true,Bool.toNat_false];omega
 ·dsimp only
  have:=List.count_le_length (a:=false) (l:=Pu.st (List.replicate g.Nons.toNat false) g.Start true)
  simp only [bj,List.length_replicate] at this
  simp only [Bool.toNat_true]
  omega
 ·obtain⟨s,rfl,h⟩:=hr
  exact .some h
end Go.Proofs.Ytmfkjilndpchbaa.Ap
