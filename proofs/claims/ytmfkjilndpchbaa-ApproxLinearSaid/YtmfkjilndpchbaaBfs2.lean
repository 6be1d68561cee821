import Derived.Test.YtmfkjilndpchbaaBfs
namespace Go.Proofs.Ytmfkjilndpchbaa.Df
open Go Go.Ab Go.Pu
section
variable {x y : Ty.J5} {nx ny m : Int} {rows : List Ty.J4} {seen : List ((Int × Int) × Bool)} {ws : List (List Int)}
theorem Cov.push {p:Ty.J4}{u:List Int}{j c:Int}(hl:ws.length=rows.length)(j0:0≤j)(j1:j<rows.length)(h:Cov x y m rows ws j c):Cov x y m (rows++ [p]) (ws++ [u]) j c:=by
 obtain⟨r,r0,r1,a,b,d⟩:=h
 refine⟨r,r0,by simp;omega,?_⟩
 rw [bh r0 r1,bh j0 j1,bh r0 (by omega),bh j0 (by omega)]
 exact⟨a,b,d⟩
structure BO (x y:Ty.J5)(m:Int)(rows:List Ty.J4)(seen:List ((Int×Int)×Bool))(ws:List (List Int))(i:Int):Prop where
 bi:BI x y m rows seen ws
 i0:0≤i
 i1:i≤rows.length
 cov:∀j:Int,0≤j→j<i→∀c,0≤c→c<m→Cov x y m rows ws j c
 agr:∀j:Int,0≤j→j<i→(0≤told x (el rows j).a↔0≤told y (el rows j).b)
structure BN (x y:Ty.J5)(m:Int)(rows:List Ty.J4)(seen:List ((Int×Int)×Bool))(ws:List (List Int))(i:Int)(p:Ty.J4)(c:Int):Prop extends BO x y m rows seen ws i where
 lt:i<rows.length
 at_:el rows i=p
 cur:∀e,0≤e→e<c→Cov x y m rows ws i e
 ord:∀r:Int,0<r→r<rows.length→(el rows r).from_≤i∧((el rows r).from_=i→(el rows r).by_<c)∧0≤(el rows r).by_∧(el rows r).by_<m
theorem BN.step (hm:1≤m){i c:Int}{p:Ty.J4}(h:BN x y m rows seen ws i p c)(c0:0≤c)(c1:c<m)(hn:¬(mget (dstep x p.a c,dstep y p.b c) seen).getD false=true):
 BN x y m (rows++ [⟨dstep x p.a c,dstep y p.b c,i,c⟩]) (mput (dstep x p.a c,dstep y p.b c) true seen) (ws++ [el ws i++ [c]]) i p (c+1):=by
 have hp:=h.at_
 have hl:=h.bi.len
 have h1:=h.lt
 have i0:=h.i0
 subst hp
 have hb:=h.bi.push hm i0 h1 c0 c1 hn (fun r r0 r1=>⟨(h.ord r r0 r1).1,(h.ord r r0 r1).2.1⟩) (fun r r0 r1=>(h.ord r r0 r1).2.2)
 refine⟨⟨hb,i0,by simp;omega,fun j j0 j1 e e0 e1=>(h.cov j j0 j1 e e0 e1).push hl j0 (by omega),fun j j0 j1=>?_⟩,by simp;omega,bh i0 h1,fun e e0 e1=>?_,fun r r0 r1=>?_⟩
 ·rw [bh j0 (by omega)];exact h.agr j j0 j1
 ·rcases(by omega:e<c∨e=c) with q|rfl
  ·exact(h.cur e e0 q).push hl i0 h1
  ·refine⟨rows.length,by omega,by simp;omega,?_⟩
   rw [show el (rows++ [(⟨dstep x (el rows i).a e,dstep y (el rows i).b e,i,e⟩:Ty.J4)]) (rows.length:Int)=_ from aT (by simp;rfl),bh i0 h1,show el (ws++ [el ws i++ [e]]) (rows.length:Int)=el ws i++ [e] from aT (by rw [←hl];simp),bh i0 (by omega)]
   exact⟨rfl,rfl,Int.le_refl _⟩
 ·rcases(by simp at r1;omega:r<rows.length∨r=(rows.length:Int)) with q|rfl
  ·rw [bh (by omega) q]
   obtain⟨a1,a2,a3⟩:=h.ord r r0 q
   exact⟨a1,fun e=>by have:=a2 e;omega,a3⟩
  ·rw [show el (rows++ [(⟨dstep x (el rows i).a c,dstep y (el rows i).b c,i,c⟩:Ty.J4)]) (rows.length:Int)=_ from aT (by simp;rfl)]
   exact⟨Int.le_refl _,fun _=>by show c<c+1;omega,c0,c1⟩
theorem BN.skip {i c:Int}{p:Ty.J4}(hm:1≤m)(h:BN x y m rows seen ws i p c)(c0:0≤c)(c1:c<m)(hn:(mget (dstep x p.a c,dstep y p.b c) seen).getD false=true):BN x y m rows seen ws i p (c+1):=by
 have hp:=h.at_
 subst hp
 refine⟨h.toBO,h.lt,rfl,fun e e0 e1=>?_,fun r r0 r1=>?_⟩
 ·rcases(by omega:e<c∨e=c) with q|rfl
  ·exact h.cur e e0 q
  ·obtain⟨r,r0,r1,a,b⟩:=(h.bi.seen _ _).1 hn
   refine⟨r,r0,r1,a,b,?_⟩
   rcases h.bi.frm r r0 r1 with⟨-,-,e1⟩|⟨q1,q2,q3⟩
   ·rw [e1];exact gF hm _ (Wd.snoc.2 ⟨h.bi.wd i h.i0 h.lt,c0,c1⟩)
   ·obtain⟨o1,o2,o3⟩:=h.ord r (by omega) r1
    rw [q3]
    rcases(by omega:(el rows r).from_=i∨(el rows r).from_<i) with e1|e1
    ·have:=o2 e1
     rw [e1,cp,cp];omega
    ·exact Int.le_of_lt (jK hm (h.bi.inc _ _ q1 e1 h.lt) o3.2 c0)
 ·obtain⟨a1,a2,a3⟩:=h.ord r r0 r1
  exact⟨a1,fun e=>by have:=a2 e;omega,a3⟩
def DifR (x y:Ty.J5)(m B:Int)(r:List Int×Bool):Prop:=
 (r=([],false)∧∀w,Wd w m→(0≤tell x w↔0≤tell y w))∨
 (r.2=true∧Wd r.1 m∧(r.1.length:Int)≤B∧¬(0≤tell x r.1↔0≤tell y r.1)∧∀v,Wd v m→key m v<key m r.1→(0≤tell x v↔0≤tell y v))
theorem prod_bd {nx ny:Int}(h1:1≤nx)(h2:nx≤200)(h3:1≤ny)(h4:ny≤200):(nx+1)*(ny+1)≤40401:=by
 have a:(nx+1)*(ny+1)≤201*(ny+1):=Int.mul_le_mul_of_nonneg_right (by omega) (by omega)
 omega
theorem jn {d:Ty.J5}{n m s:Int}(h:VD d n m)(h1:s<n):Ok (if decide (0≤s) then(Pu.ix d.Accept s).bind fun x=>some (decide (0≤x)) else some false) fun b=>b=decide (0≤told d s):=by
 unfold told
 refine .ite (fun q=>?_) fun q=>?_
 ·simp at q
  rw [aG q (by rw [h.acc];exact h1),Option.bind_some,if_neg (by omega)]
  exact .some rfl
 ·simp at q
  rw [if_pos (by omega)]
  exact .some (by simp)
theorem differ_ok (hx:VD x nx m)(hy:VD y ny m){φ:Nat}(hφ:100000≤φ):Ok (P.E4 φ x y) (DifR x y m ((nx+1)*(ny+1))):=by
 have hnx:=hx.dim.1;have hny:=hy.dim.1
 have n1:=hx.n1;have n2:=hx.n2;have n3:=hy.n1;have n4:=hy.n2;have hm:=hx.m1;have hm2:=hx.m2
 have hx0:=hx.dim.2 0 (by omega) (by omega)
 have hy0:=hy.dim.2 0 (by omega) (by omega)
 have hpb:=prod_bd n1 n2 n3 n4
 have hpn:0≤(nx+1)*(ny+1):=Int.mul_nonneg (by omega) (by omega)
 unfold P.E4
 rw [check_ok hx,Option.bind_some,check_ok hy,Option.bind_some]
 simp only [ne_eq,not_true_eq_false,decide_false,Bool.false_eq_true,if_false,Option.bind_some]
 rw [aG (by omega) (by omega),Option.bind_some,aG (by omega) (by omega),Option.bind_some,hx0,hy0]
 simp only [not_true_eq_false,decide_false,Option.bind_some,Bool.false_eq_true,if_false]
 refine Ok.bind (bF (fun s=>∃ws,BO x y m s.1 s.2.1 ws s.2.2∧∀r:Int,0<r→r<s.1.length→(el s.1 r).from_<s.2.2∧0≤(el s.1 r).by_∧(el s.1 r).by_<m) (fun s=>(50000-s.2.2).toNat)
  (Q:=fun r=>r.cs (fun _=>∀w,Wd w m→(0≤tell x w↔0≤tell y w)) (fun r=>DifR x y m ((nx+1)*(ny+1)) r)) ⟨[[]],?_,fun r r0 r1=>by simp at r1;omega⟩ (fun s hs=>?_) (by simp;omega)) fun r hr=>?_
 ·have e0:∀j:Int,0≤j→j<(([⟨x.Start,y.Start,-1,0⟩]:List Ty.J4).length:Int)→j=0:=fun j j0 j1=>by simp at j1;omega
  refine⟨⟨rfl,by simp,fun j j0 j1=>?_,fun j j0 j1=>?_,fun j j0 j1=>?_,fun i j i0 ij j1=>by have h1:=e0 i i0 (Int.lt_trans ij j1);have h2:=e0 j (by omega) j1;omega,fun a b=>?_,fun i j i0 ij j1=>by have h1:=e0 i i0 (Int.lt_trans ij j1);have h2:=e0 j (by omega) j1;omega⟩,by simp,by simp,fun j j0 j1=>by simp at j1;omega,fun j j0 j1=>by simp at j1;omega⟩
  ·rw [e0 j j0 j1];exact Wd.nil
  ·rw [e0 j j0 j1];exact⟨rfl,rfl⟩
  ·rw [e0 j j0 j1];exact .inl ⟨rfl,rfl,rfl⟩
  ·rw [bu]
   by_cases e:(a,b)=(x.Start,y.Start)
   ·rw [if_pos e]
    simp only [Prod.mk.injEq] at e
    exact⟨fun _=>⟨0,by omega,by simp,e.1.symm,e.2.symm⟩,fun _=>rfl⟩
   ·rw [if_neg e]
    refine⟨fun q=>by simp [Pu.mget] at q,fun⟨j,j0,j1,a1,a2⟩=>?_⟩
    rw [e0 j j0 j1] at a1 a2
    exact absurd (Prod.ext a1.symm a2.symm) e
 ·obtain⟨rows,seen,i⟩:=s
  obtain⟨ws,h,ho⟩:=hs
  dsimp only at h ho
  have hcount:=h.bi.count hx hy
  have i0:=h.i0;have i1:=h.i1
  have hpos:=h.bi.pos
  have fin:∀v,Wd v m→0<i→(i<rows.length→key m v<key m (el ws i))→(0≤tell x v↔0≤tell y v):=fun v hv ip hk=>by
   obtain⟨r,r0,r1,a1,a2,-⟩:=h.bi.reach hm ip i1 h.cov v hv hk
   have:=h.agr r r0 r1
   rw [a1,a2] at this
   exact this
  unfold P.E4.b0
  dsimp only
  refine .ite (fun hlt=>?_) fun hge=>.some fun w hw=>fin w hw (by omega) (fun q=>by omega)
  rw [aG i0 hlt,Option.bind_some]
  obtain⟨p1,p2⟩:=h.bi.pa i i0 hlt
  have hwi:=h.bi.wd i i0 hlt
  have rx:=eD hx (el ws i) x.Start (Wd.mem.1 hwi) (by have:=hx.s0;omega) hx.s1
  have ry:=eD hy (el ws i) y.Start (Wd.mem.1 hwi) (by have:=hy.s0;omega) hy.s1
  rw [←p1] at rx
  rw [←p2] at ry
  refine(jn hx rx.2).bind fun b5 h5=>(jn hy ry.2).bind fun b6 h6=>?_
  have hb:(b5==b6)=decide (0≤told x (el rows i).a↔0≤told y (el rows i).b):=by
   subst h5 h6
   by_cases q1:0≤told x (el rows i).a<;>by_cases q2:0≤told y (el rows i).b<;>simp [q1,q2]
  rw [hb]
  refine .ite (fun hd=>?_) fun hd=>?_
  ·have hd':¬(0≤told x (el rows i).a↔0≤told y (el rows i).b):=by simpa using hd
   rw [h.bi.way (by omega) φ i i0 hlt (by omega),Option.bind_some]
   refine .some (.inr ⟨rfl,hwi,?_,?_,fun v hv hk=>?_⟩)
   ·have:=h.bi.wlen _ i rfl i0 hlt
    show((el ws i).length:Int)≤_
    omega
   ·show ¬(0≤told x (drun x x.Start (el ws i))↔0≤told y (drun y y.Start (el ws i)))
    rw [←p1,←p2];exact hd'
   ·have hk:key m v<key m (el ws i):=hk
    rcases(by omega:0<i∨i=0) with q|q
    ·exact fin v hv q fun _=>hk
    ·exfalso
     subst q
     rcases h.bi.frm 0 (by omega) hlt with⟨-,-,e⟩|⟨a1,a2,-⟩
     ·rw [e] at hk
      have:=gF hm v hv
      have:key m v<0:=hk
      omega
     ·omega
  ·have hd':(0≤told x (el rows i).a↔0≤told y (el rows i).b):=by simpa using hd
   rw [aG (by omega) (by omega),Option.bind_some,hx0,bN (by omega),Option.bind_some]
   refine Ok.bind (aM (fun c (s:List Ty.J4×List ((Int×Int)×Bool))=>∃ws,BN x y m s.1 s.2 ws i (el rows i) (c:Int))
    (Q:=fun s=>∃ws,BN x y m s.1 s.2 ws i (el rows i) m) ⟨ws,⟨h,hlt,rfl,fun e e0 e1=>by omega,fun r r0 r1=>?_⟩⟩ (fun c z s hz hs=>?_) fun s hs=>?_) fun s hs=>?_
   ·dsimp only at r1 ⊢
    obtain⟨o1,o2⟩:=ho r r0 r1
    exact⟨by omega,fun e=>by omega,o2⟩
   ·obtain⟨rfl,hc⟩:=ce hz
    obtain⟨rows2,seen2⟩:=s
    obtain⟨ws2,h2⟩:=hs
    dsimp only at h2
    have hcount2:=h2.bi.count hx hy
    unfold P.E4.b1
    rw [jm hx rx.2 (by omega) hc,Option.bind_some,jm hy ry.2 (by omega) hc,Option.bind_some]
    dsimp only
    by_cases q:(mget (dstep x (el rows i).a c,dstep y (el rows i).b c) seen2).getD false=true
    ·rw [if_neg (by simp [q]),Option.bind_some]
     exact .some ⟨ws2,h2.skip hm (by omega) hc q⟩
    ·rw [if_pos (by simpa using q),bk (by simp;omega),Option.bind_some,Option.bind_some]
     exact .some ⟨_,h2.step hm (by omega) hc q⟩
   ·obtain⟨ws2,h2⟩:=hs
    rw [ba,show((m.toNat:Nat):Int)=m by omega] at h2
    exact⟨ws2,h2⟩
   ·obtain⟨ws2,h2⟩:=hs
    have hW:Pu.W (i+1)=i+1:=by rw [aN]
    rw [hW]
    refine .some ⟨⟨ws2,⟨h2.bi,by dsimp only;omega,by have:=h2.lt;dsimp only;omega,fun j j0 j1 c c0 c1=>?_,fun j j0 j1=>?_⟩,fun r r0 r1=>?_⟩,by dsimp only;omega⟩
    ·dsimp only at j1
     rcases(by omega:j<i∨j=i) with q|rfl
     ·exact h2.cov j j0 q c c0 c1
     ·exact h2.cur c c0 c1
    ·dsimp only at j1
     rcases(by omega:j<i∨j=i) with q|rfl
     ·exact h2.agr j j0 q
     ·dsimp only;rw [h2.at_];exact hd'
    ·obtain⟨o1,-,o3⟩:=h2.ord r r0 r1
     exact⟨by dsimp only;omega,o3⟩
 ·cases r with
  | out s=>exact .some (.inl ⟨rfl,hr⟩)
  | rt r=>exact .some hr
end
end Go.Proofs.Ytmfkjilndpchbaa.Df
