import Derived.Test.YtmfkjilndpchbaaApQ
import Derived.Test.YtmfkjilndpchbaaDfaM
import Derived.Test.YtmfkjilndpchbaaBfs2
namespace Go.Proofs.Ytmfkjilndpchbaa.Ap
open Go Go.Ab Go.Pu Go.Proofs.Ytmfkjilndpchbaa.Df
open Go.Proofs.Ytmfkjilndpchbaa.Gr (Sy Ru Valid gPlain)
def Ar (d:Ty.J5)(m s:Int)(r:Ru):Prop:=(∃c,0≤c∧c<m∧0≤el2 d.Next s c∧r=⟨s,[⟨true,c⟩,⟨false,el2 d.Next s c⟩]⟩)∨(0≤el d.Accept s∧r=⟨s,[]⟩)
theorem from_ok {d:Ty.J5}{n m:Int}(h:VD d n m)(hn:n≤6)(hm:m≤3):Ok (P.D2 d) fun r=>r.2=0∧Valid r.1∧r.1.Terms=m∧r.1.Nons=n∧r.1.Start=d.Start∧∀q,q∈r.1.Rules↔∃s,0≤s∧s<n∧Ar d m s q:=by
 have hd:=h.dim;have hl:=hd.1
 have n1:=h.n1;have m1:=h.m1;have ha:=h.acc;have s0:=h.s0;have s1:=h.s1
 have h0:=hd.2 0 (by omega) (by omega)
 unfold P.D2
 rw [Df.check_ok h,Option.bind_some,if_neg (by simp)]
 rw [if_neg (by simp;omega),aG (by omega) (by omega),Option.bind_some,Option.bind_some]
 rw [if_neg (by simp;omega),Option.bind_some]
 refine Ok.bind (aM (fun i (L:List Ru)=>L.length≤i*4∧(∀q,q∈L↔∃s,0≤s∧s<(i:Int)∧Ar d m s q)∧L.Pairwise (·≠·))
  (Q:=fun L=>L.length≤24∧(∀q,q∈L↔∃s,0≤s∧s<n∧Ar d m s q)∧L.Pairwise (·≠·)) ⟨by simp,fun q=>by simp;intro s a b;omega,List.Pairwise.nil⟩ (fun i row L hr hL=>?_) fun L hL=>?_) fun L hL=>?_
 ·have hi:=(List.getElem?_eq_some_iff.1 hr).1
  have hre:el d.Next (i:Int)=row:=aT hr
  have hrl:=hd.2 i (by omega) (by omega)
  rw [hre] at hrl
  obtain⟨l1,l2,l3⟩:=hL
  have hold:∀q∈L,q.Left<(i:Int):=fun q hq=>by
   obtain⟨s,a,b,hA⟩:=(l2 q).1 hq
   rcases hA with⟨c,_,_,_,rfl⟩|⟨_,rfl⟩<;>exact b
  unfold P.D2.b0
  refine Ok.bind (aM (fun j (K:List Ru)=>K.length≤i*4+j∧(∀q,q∈K↔q∈L∨∃c:Int,0≤c∧c<(j:Int)∧0≤el2 d.Next i c∧q=⟨(i:Int),[⟨true,c⟩,⟨false,el2 d.Next i c⟩]⟩)∧K.Pairwise (·≠·))
   (Q:=fun K=>K.length≤i*4+3∧(∀q,q∈K↔q∈L∨∃c:Int,0≤c∧c<m∧0≤el2 d.Next i c∧q=⟨(i:Int),[⟨true,c⟩,⟨false,el2 d.Next i c⟩]⟩)∧K.Pairwise (·≠·))
   ⟨by omega,fun q=>?_,l3⟩ (fun j x K hx hK=>?_) fun K hK=>?_) fun K hK=>?_
  ·constructor
   ·exact .inl
   ·rintro(h|⟨c,a,b,_⟩)
    ·exact h
    ·omega
  ·have hj:=(List.getElem?_eq_some_iff.1 hx).1
   have hxe:el2 d.Next (i:Int) (j:Int)=x:=by rw [el2,hre];exact aT hx
   obtain⟨k1,k2,k3⟩:=hK
   unfold P.D2.b1
   refine Ok.bind (Q:=fun K'=>K'.length≤i*4+(j+1)∧(∀q,q∈K'↔q∈L∨∃c:Int,0≤c∧c<((j+1:Nat):Int)∧0≤el2 d.Next i c∧q=⟨(i:Int),[⟨true,c⟩,⟨false,el2 d.Next i c⟩]⟩)∧K'.Pairwise (·≠·)) (.ite (fun hp=>?_) fun hp=>.some ⟨by omega,fun q=>?_,k3⟩) fun K' h=>.some h
   ·rw [bk (by simp only [List.length_singleton];omega),Option.bind_some]
    refine .some ⟨by simp;omega,fun q=>?_,?_⟩
    ·rw [List.mem_append,List.mem_singleton,k2,or_assoc]
     refine or_congr Iff.rfl ?_
     constructor
     ·rintro(⟨c,a,b,z⟩|rfl)
      ·exact⟨c,a,by omega,z⟩
      ·exact⟨j,by omega,by omega,by rw [hxe];exact hp,by rw [hxe]⟩
     ·rintro⟨c,a,b,z⟩
      rcases(by omega:c<(j:Int)∨c=(j:Int)) with e|rfl
      ·exact .inl ⟨c,a,e,z⟩
      ·rw [hxe] at z;exact .inr z.2
    ·rw [List.pairwise_append]
     refine⟨k3,List.pairwise_singleton _ _,fun q hq z hz=>?_⟩
     rw [List.mem_singleton] at hz;subst hz
     rcases(k2 q).1 hq with hq|⟨c,a,b,_,rfl⟩
     ·intro e;have:=hold q hq;rw [e] at this;simp at this
     ·intro e;simp at e;omega
   ·rw [k2]
    refine or_congr Iff.rfl ⟨fun⟨c,a,b,z⟩=>⟨c,a,by omega,z⟩,fun⟨c,a,b,z⟩=>?_⟩
    rcases(by omega:c<(j:Int)∨c=(j:Int)) with e|rfl
    ·exact⟨c,a,e,z⟩
    ·rw [hxe] at z;exact absurd z.1 hp
  ·obtain⟨k1,k2,k3⟩:=hK
   exact⟨by omega,fun q=>by rw [k2,hrl],k3⟩
  ·obtain⟨k1,k2,k3⟩:=hK
   have hsplit:∀q,(∃s,0≤s∧s<((i+1:Nat):Int)∧Ar d m s q)↔(∃s,0≤s∧s<(i:Int)∧Ar d m s q)∨Ar d m i q:=fun q=>by
    constructor
    ·rintro⟨s,a,b,z⟩
     rcases(by omega:s<(i:Int)∨s=(i:Int)) with e|rfl
     ·exact .inl ⟨s,a,e,z⟩
     ·exact .inr z
    ·rintro(⟨s,a,b,z⟩|z)
     ·exact⟨s,a,by omega,z⟩
     ·exact⟨i,by omega,by omega,z⟩
   rw [aG (by omega) (by omega),Option.bind_some]
   refine Ok.bind (Q:=fun K'=>K'.length≤(i+1)*4∧(∀q,q∈K'↔∃s,0≤s∧s<((i+1:Nat):Int)∧Ar d m s q)∧K'.Pairwise (·≠·)) (.ite (fun hp=>?_) fun hp=>.some ⟨by omega,fun q=>?_,k3⟩) fun K' h=>.some h
   ·rw [bk (by simp only [List.length_singleton];omega),Option.bind_some]
    refine .some ⟨by simp;omega,fun q=>?_,?_⟩
    ·rw [hsplit,List.mem_append,List.mem_singleton,k2,l2,or_assoc]
     refine or_congr Iff.rfl (or_congr Iff.rfl ⟨fun e=>⟨hp,e⟩,fun e=>e.2⟩)
    ·rw [List.pairwise_append]
     refine⟨k3,List.pairwise_singleton _ _,fun q hq z hz=>?_⟩
     rw [List.mem_singleton] at hz;subst hz
     rcases(k2 q).1 hq with hq|⟨c,a,b,_,rfl⟩
     ·intro e;have:=hold q hq;rw [e] at this;simp at this
     ·intro e;simp at e
   ·rw [hsplit,k2,l2]
    refine or_congr Iff.rfl ⟨.inl,fun z=>z.elim id fun z=>absurd z.1 hp⟩
 ·obtain⟨l1,l2,l3⟩:=hL
  exact⟨by omega,fun q=>by rw [l2,hl],l3⟩
 ·obtain⟨l1,l2,l3⟩:=hL
  have hv:Valid (Ty.E8.mk ((el d.Next 0).length:Int) (d.Accept.length:Int) d.Start L):=by
   refine⟨by dsimp only;omega,by dsimp only;omega,by dsimp only;omega,by dsimp only;omega,s0,by dsimp only;omega,by dsimp only;omega,fun r hr=>?_,fun r hr=>?_,fun r hr y hy=>?_,l3⟩
   ·obtain⟨s,a,b,z⟩:=(l2 r).1 hr
    dsimp only
    rcases z with⟨c,_,_,_,rfl⟩|⟨_,rfl⟩<;>(dsimp only;omega)
   ·obtain⟨s,a,b,z⟩:=(l2 r).1 hr
    rcases z with⟨c,_,_,_,rfl⟩|⟨_,rfl⟩<;>simp
   ·obtain⟨s,a,b,z⟩:=(l2 r).1 hr
    dsimp only
    rcases z with⟨c,c0,c1,t0,rfl⟩|⟨_,rfl⟩
    ·have:=h.t1 s c a b c0 c1
     simp only [List.mem_cons,List.not_mem_nil,or_false] at hy
     rcases hy with rfl|rfl
     ·exact⟨c0,fun _=>by dsimp only;omega,fun e=>by cases e⟩
     ·exact⟨t0,fun e=>(by cases e),fun _=>by dsimp only;omega⟩
    ·cases hy
  rw [Gr.check_ok hv,Option.bind_some,if_neg (by simp)]
  exact .some ⟨rfl,hv,h0,ha,rfl,l2⟩
theorem lin_lg {d:Ty.J5}{n m:Int}(h:VD d n m){R:List Ru}(hR:∀q,q∈R↔∃s,0≤s∧s<n∧Ar d m s q):∀(w:List Int) (s:Int),0≤s→s<n→(∀c∈w,0≤c∧c<m)→(Lg R [⟨false,s⟩] w↔0≤told d (drun d s w)):=by
 intro w
 induction w with
 | nil=>
   intro s s0 s1 _
   have e:told d (drun d s [])=el d.Accept s:=by show told d s=_;unfold told;rw [if_neg (by omega)]
   rw [e]
   constructor
   ·intro hl
    obtain⟨r,hr,hl,hw⟩:=hl.one_of
    obtain⟨s',a,b,z⟩:=(hR r).1 hr
    rcases z with⟨c,_,_,_,rfl⟩|⟨z,rfl⟩
    ·obtain⟨u,v,e,h1,h2⟩:=hw.cons
     rw [h1.term_eq] at e;cases e
    ·simp only at hl;subst hl;exact z
   ·intro hp
    have hr:(⟨s,[]⟩:Ru)∈R:=(hR _).2 ⟨s,s0,s1,.inr ⟨hp,rfl⟩⟩
    exact Lg.one hr .nil
 | cons c w ih=>
   intro s s0 s1 hw
   have hc:=hw c (.head _)
   have ht:=h.t1 s c s0 s1 hc.1 hc.2
   have e:drun d s (c::w)=drun d (el2 d.Next s c) w:=by
    show drun d (Df.dstep d s c) w=_
    unfold Df.dstep;rw [if_neg (by omega)]
   rw [e]
   constructor
   ·intro hl
    obtain⟨r,hr,hl,hw2⟩:=hl.one_of
    obtain⟨s',a,b,z⟩:=(hR r).1 hr
    rcases z with⟨c',c0,c1,t0,rfl⟩|⟨z,rfl⟩
    ·simp only at hl;subst hl
     obtain⟨u,v,e2,h1,h2⟩:=hw2.cons
     rw [h1.term_eq] at e2
     simp only [List.singleton_append,List.cons.injEq] at e2
     obtain⟨rfl,rfl⟩:=e2
     exact(ih _ t0 ht.2 fun x hx=>hw x (.tail _ hx)).1 h2
    ·exact absurd hw2.nil_eq (by simp)
   ·intro hp
    have t0:0≤el2 d.Next s c:=by
     refine Classical.byContradiction fun q=>?_
     rw [show el2 d.Next s c= -1 by omega,eQ] at hp
     have:¬(0:Int)≤told d (-1):=by unfold told;simp
     exact this hp
    have hr:(⟨s,[⟨true,c⟩,⟨false,el2 d.Next s c⟩]⟩:Ru)∈R:=(hR _).2 ⟨s,s0,s1,.inl ⟨c,hc.1,hc.2,t0,rfl⟩⟩
    exact Lg.one hr (.term ((ih _ t0 ht.2 fun x hx=>hw x (.tail _ hx)).2 hp))
end Go.Proofs.Ytmfkjilndpchbaa.Ap
namespace Go.Proofs.Ytmfkjilndpchbaa.Gr
open Go Go.Ab Go.Pu
theorem approxLinear_plain (l:List Int):∃φ,P.D3 φ l=some true:=by
 refine⟨100000000000,Ok.eq ?_⟩
 unfold P.D3
 refine(Df.dfa_ok l).bind fun d ⟨n,m,vd,hn,hm⟩=>?_
 obtain⟨p,e1,e2⟩:=Ap.plain_of'
 rw [plain_eq,Option.bind_some,e1,Option.bind_some,e2]
 rw [if_neg (by simp)]
 refine(Ap.from_ok vd hn hm).bind fun x ⟨x0,hv,xt,xn,xs,xr⟩=>?_
 rw [if_neg (by omega)]
 refine(Ap.of_ok hv (Nat.le_refl _)).bind fun r hr=>.ite (fun _=>.some rfl) fun h2=>?_
 rcases hr with h|⟨h0,k,vd2,hc,hx,hR⟩
 ·exact absurd h h2
 have hex:r.2.1=true:=hR fun N q hq _ i y hy ht _=>by
  obtain⟨s,_,_,z⟩:=(xr q).1 hq
  rcases z with⟨c,_,_,_,rfl⟩|⟨_,rfl⟩
  ·rcases i with _|_|i
   ·simp at hy;subst hy;cases ht
   ·rfl
   ·simp at hy
  ·simp at hy
 rw [h0,hex,if_neg (by simp)]
 rw [xt] at vd2 hc hx
 refine(Df.differ_ok vd2 vd (by omega)).bind fun z hz=>.some ?_
 rcases hz with⟨rfl,_⟩|⟨_,w1,_,w2,_⟩
 ·rfl
 ·refine absurd ?_ w2
  have key:=Ap.lin_lg vd xr z.1 d.Start vd.s0 vd.s1 (Df.Wd.mem.1 w1)
  rw [←xs] at key
  constructor
  ·intro h
   have:=key.1 (hx hex _ w1 h)
   rw [xs] at this;exact this
  ·intro h
   refine hc _ w1 (key.2 ?_)
   rw [xs];exact h
end Go.Proofs.Ytmfkjilndpchbaa.Gr
