import Derived.Test.YtmfkjilndpchbaaAut0
namespace Go.Proofs.Ytmfkjilndpchbaa.Df
open Go Go.Ab Go.Pu
instance:Inhabited Ty.J4:=⟨⟨0,0,0,0⟩⟩
theorem jm {d:Ty.J5}{n m s c:Int}(h:VD d n m)(h1:s<n)(c0:0≤c)(c1:c<m):P.K0 d s c=some (dstep d s c):=by
 unfold P.K0 dstep
 split
 ·rfl
 ·rw [h.dim.ix (by omega) h1,Option.bind_some,h.dim.ix2 (by omega) h1 c0 c1,Option.bind_some]
section
variable (x y : Ty.J5) (nx ny m : Int)
structure BI (rows:List Ty.J4)(seen:List ((Int×Int)×Bool))(ws:List (List Int)):Prop where
 len:ws.length=rows.length
 pos:0<rows.length
 wd:∀j:Int,0≤j→j<rows.length→Wd (el ws j) m
 pa:∀j:Int,0≤j→j<rows.length→(el rows j).a=drun x x.Start (el ws j)∧(el rows j).b=drun y y.Start (el ws j)
 frm:∀j:Int,0≤j→j<rows.length→(j=0∧(el rows j).from_= -1∧el ws j= [])∨(0≤(el rows j).from_∧(el rows j).from_<j∧el ws j=el ws (el rows j).from_++ [(el rows j).by_])
 inc:∀i j:Int,0≤i→i<j→j<rows.length→key m (el ws i)<key m (el ws j)
 seen:∀a b:Int,(mget (a,b) seen).getD false=true↔∃j:Int,0≤j∧j<rows.length∧(el rows j).a=a∧(el rows j).b=b
 nd:∀i j:Int,0≤i→i<j→j<rows.length→¬((el rows i).a=(el rows j).a∧(el rows i).b=(el rows j).b)
def Cov (rows:List Ty.J4)(ws:List (List Int))(j c:Int):Prop:=∃r:Int,0≤r∧r<rows.length∧(el rows r).a=dstep x (el rows j).a c∧(el rows r).b=dstep y (el rows j).b c∧key m (el ws r)≤key m (el ws j++ [c])
end
section
variable {x y : Ty.J5} {nx ny m : Int} {rows : List Ty.J4} {seen : List ((Int × Int) × Bool)} {ws : List (List Int)}
theorem BI.count (hx:VD x nx m)(hy:VD y ny m)(h:BI x y m rows seen ws):(rows.length:Int)≤(nx+1)*(ny+1):=by
 have hnx:=hx.n1;have hny:=hy.n1
 have hnn:0≤(nx+1)*(ny+1):=Int.mul_nonneg (by omega) (by omega)
 have hr:∀j:Int,0≤j→j<rows.length→ -1≤(el rows j).a∧(el rows j).a<nx∧ -1≤(el rows j).b∧(el rows j).b<ny:=fun j j0 j1=>by
  obtain⟨e1,e2⟩:=h.pa j j0 j1
  have hw:=Wd.mem.1 (h.wd j j0 j1)
  have a1:=eD hx (el ws j) x.Start hw (by have:=hx.s0;omega) hx.s1
  have a2:=eD hy (el ws j) y.Start hw (by have:=hy.s0;omega) hy.s1
  rw [e1,e2];exact⟨a1.1,a1.2,a2.1,a2.2⟩
 have key1:∀a b:Int,-1≤a→a<nx→ -1≤b→b<ny→0≤(a+1)*(ny+1)+(b+1)∧(a+1)*(ny+1)+(b+1)<(nx+1)*(ny+1):=fun a b a0 a1 b0 b1=>by
  have h1:0≤(a+1)*(ny+1):=Int.mul_nonneg (by omega) (by omega)
  have h2:(a+1+1)*(ny+1)≤(nx+1)*(ny+1):=Int.mul_le_mul_of_nonneg_right (by omega) (by omega)
  rw [Int.add_mul (a+1) 1] at h2
  omega
 have:=il (N:=((nx+1)*(ny+1)).toNat) (rows.map fun p=>(p.a+1)*(ny+1)+(p.b+1)) (by
  rw [List.nodup_iff_pairwise_ne,List.pairwise_map,List.pairwise_iff_getElem]
  intro i j hi hj hij
  have e:=h.nd i j (by omega) (by omega) (by omega)
  have gi:el rows (i:Int)=rows[i]:=aT (List.getElem?_eq_getElem hi)
  have gj:el rows (j:Int)=rows[j]:=aT (List.getElem?_eq_getElem hj)
  have ri:=hr i (by omega) (by omega)
  have rj:=hr j (by omega) (by omega)
  rw [gi,gj] at e
  rw [gi] at ri
  rw [gj] at rj
  intro q
  apply e
  generalize rows[i].a=a at*
  generalize rows[i].b=b at*
  generalize rows[j].a=a' at*
  generalize rows[j].b=b' at*
  have hd:(a-a')*(ny+1)=b'-b:=by rw [Int.sub_mul];rw [Int.add_mul,Int.add_mul] at q;omega
  rcases Int.lt_trichotomy a a' with hl|rfl|hl
  ·have:(a-a')*(ny+1)≤(-1)*(ny+1):=Int.mul_le_mul_of_nonneg_right (by omega) (by omega)
   omega
  ·simp at hd;exact⟨rfl,by omega⟩
  ·have:1*(ny+1)≤(a-a')*(ny+1):=Int.mul_le_mul_of_nonneg_right (by omega) (by omega)
   omega) (by
  intro v hv
  obtain⟨p,hp,rfl⟩:=List.mem_map.1 hv
  obtain⟨i,hi⟩:=List.getElem?_of_mem hp
  have hi2:=(List.getElem?_eq_some_iff.1 hi).1
  have:=hr i (by omega) (by omega)
  rw [aT hi] at this
  have:=key1 p.a p.b this.1 this.2.1 this.2.2.1 this.2.2.2
  omega)
 rw [List.length_map] at this
 omega
theorem BI.reach (hm:1≤m)(h:BI x y m rows seen ws){i:Int}(i0:0<i)(i1:i≤rows.length)(hc:∀j,0≤j→j<i→∀c,0≤c→c<m→Cov x y m rows ws j c)(v:List Int):
 Wd v m→(i<rows.length→key m v<key m (el ws i))→∃r:Int,0≤r∧r<i∧(el rows r).a=drun x x.Start v∧(el rows r).b=drun y y.Start v∧key m (el ws r)≤key m v:=by
 have hp0:=h.pos
 refine ga (p:=fun v=>Wd v m→(i<rows.length→key m v<key m (el ws i))→∃r:Int,0≤r∧r<i∧(el rows r).a=drun x x.Start v∧(el rows r).b=drun y y.Start v∧key m (el ws r)≤key m v) (fun _ _=>?_) (fun u c ih hw hk=>?_) v
 ·obtain⟨e1,e2⟩:=h.pa 0 (by omega) (by omega)
  rcases h.frm 0 (by omega) (by omega) with⟨-,-,e⟩|⟨q1,q2,-⟩
  ·rw [e] at e1 e2
   exact⟨0,by omega,by omega,e1,e2,by rw [e];exact Int.le_refl _⟩
  ·omega
 ·have hup:=key_up hm hw
  have hw':=Wd.snoc.1 hw
  obtain⟨j,j0,j1,a1,a2,a3⟩:=ih hw'.1 (fun q=>by have:=hk q;omega)
  obtain⟨r,r0,r1,b1,b2,b3⟩:=hc j j0 j1 c hw'.2.1 hw'.2.2
  have hle:key m (el ws r)≤key m (u++ [c]):=Int.le_trans b3 (key_le hm a3)
  refine⟨r,r0,?_,?_,?_,hle⟩
  ·rcases Int.lt_or_le r i with q|q
   ·exact q
   ·have h3:=hk (by omega)
    rcases(by omega:r=i∨i<r) with rfl|q2
    ·omega
    ·have:=h.inc i r (by omega) q2 r1;omega
  ·rw [b1,a1,dK];rfl
  ·rw [b2,a2,dK];rfl
theorem BI.wlen (h:BI x y m rows seen ws):∀(k:Nat) (j:Int),j.toNat=k→0≤j→j<rows.length→((el ws j).length:Int)≤j:=by
 intro k
 induction k using Nat.strongRecOn with
 | ind k ih=>
   intro j hj j0 j1
   rcases h.frm j j0 j1 with⟨e1,-,e⟩|⟨q1,q2,e⟩
   ·rw [e];simpa using j0
   ·have:=ih _ (by omega) (el rows j).from_ rfl q1 (by omega)
    rw [e];simp;omega
theorem BI.way (h:BI x y m rows seen ws)(hb:(rows.length:Int)≤1000000):∀(φ:Nat) (j:Int),0≤j→j<rows.length→j.toNat<φ→P.K2 φ rows j=some (el ws j):=by
 intro φ
 induction φ with
 | zero=>intro j _ _ h;omega
 | succ φ ih=>
   intro j j0 j1 hφ
   unfold P.K2
   rw [aG j0 j1,Option.bind_some]
   rcases h.frm j j0 j1 with⟨e1,e2,e⟩|⟨q1,q2,e⟩
   ·rw [if_pos (by omega),e]
   ·rw [if_neg (by omega),Option.bind_some,ih _ q1 (by omega) (by omega),Option.bind_some,Option.bind_some]
    have:=h.wlen _ _ rfl q1 (by omega)
    rw [bk (by simp;omega),Option.bind_some,e]
theorem BI.push (hm:1≤m)(h:BI x y m rows seen ws){i c:Int}(i0:0≤i)(i1:i<rows.length)(c0:0≤c)(c1:c<m)(hn:¬(mget (dstep x (el rows i).a c,dstep y (el rows i).b c) seen).getD false=true)
 (hord:∀r:Int,0<r→r<rows.length→(el rows r).from_≤i∧((el rows r).from_=i→(el rows r).by_<c)) (hby:∀r:Int,0<r→r<rows.length→0≤(el rows r).by_∧(el rows r).by_<m):
 BI x y m (rows++ [⟨dstep x (el rows i).a c,dstep y (el rows i).b c,i,c⟩]) (mput (dstep x (el rows i).a c,dstep y (el rows i).b c) true seen) (ws++ [el ws i++ [c]]):=by
 have hL:=h.len
 have hlt:∀{j:Int},j<rows.length→el (rows++ [(⟨dstep x (el rows i).a c,dstep y (el rows i).b c,i,c⟩:Ty.J4)]) j=el rows j:=fun {j} q=>bg (by have:=h.pos;omega)
 have hltw:∀{j:Int},j<rows.length→el (ws++ [el ws i++ [c]]) j=el ws j:=fun {j} q=>bg (by have:=h.pos;omega)
 have hnw:el (rows++ [(⟨dstep x (el rows i).a c,dstep y (el rows i).b c,i,c⟩:Ty.J4)]) (rows.length:Int)=⟨dstep x (el rows i).a c,dstep y (el rows i).b c,i,c⟩:=aT (by simp)
 have hnww:el (ws++ [el ws i++ [c]]) (rows.length:Int)=el ws i++ [c]:=aT (by rw [←hL];simp)
 obtain⟨p1,p2⟩:=h.pa i i0 i1
 have hsplit:∀{j:Int},j<((rows++ [(⟨dstep x (el rows i).a c,dstep y (el rows i).b c,i,c⟩:Ty.J4)]).length:Int)→j<rows.length∨j=(rows.length:Int):=fun {j} q=>by
  simp at q;omega
 refine⟨by simp [hL],by simp,fun j j0 j1=>?_,fun j j0 j1=>?_,fun j j0 j1=>?_,fun j j' j0 jj j1=>?_,fun a b=>?_,fun j j' j0 jj j1=>?_⟩
 ·rcases hsplit j1 with q|rfl
  ·rw [hltw q];exact h.wd j j0 q
  ·rw [hnww,Wd.snoc];exact⟨h.wd i i0 i1,c0,c1⟩
 ·rcases hsplit j1 with q|rfl
  ·rw [hltw q,hlt q];exact h.pa j j0 q
  ·rw [hnww,hnw,dK,dK,←p1,←p2];exact⟨rfl,rfl⟩
 ·rcases hsplit j1 with q|rfl
  ·rw [hltw q,hlt q]
   rcases h.frm j j0 q with a|⟨a1,a2,a3⟩
   ·exact .inl a
   ·exact .inr ⟨a1,a2,by rw [hltw (by omega)];exact a3⟩
  ·rw [hnww,hnw]
   exact .inr ⟨i0,i1,by rw [hltw i1]⟩
 ·rcases hsplit j1 with q|rfl
  ·rw [hltw q,hltw (by omega)];exact h.inc j j' j0 jj q
  ·rw [hnww,hltw jj]
   rcases(by omega:j=0∨0<j) with rfl|hj
   ·rcases h.frm 0 (by omega) jj with⟨-,-,e⟩|⟨a1,a2,-⟩
    ·rw [e];exact key_pos hm (Wd.snoc.2 ⟨h.wd i i0 i1,c0,c1⟩)
    ·omega
   ·rcases h.frm j j0 jj with⟨e,-⟩|⟨a1,a2,a3⟩
    ·omega
    ·obtain⟨o1,o2⟩:=hord j hj jj
     have hb:=hby j hj jj
     rw [a3]
     rcases(by omega:(el rows j).from_=i∨(el rows j).from_<i) with e|e
     ·have:=o2 e
      rw [e,cp,cp];omega
     ·exact jK hm (h.inc _ _ a1 e i1) hb.2 c0
 ·rw [show(mput (dstep x (el rows i).a c,dstep y (el rows i).b c) true seen)=mput (dstep x (el rows i).a c,dstep y (el rows i).b c) true seen from rfl]
  by_cases e:(a,b)=(dstep x (el rows i).a c,dstep y (el rows i).b c)
  ·rw [e,bu,if_pos rfl]
   refine⟨fun _=>⟨rows.length,by omega,by simp;omega,?_⟩,fun _=>rfl⟩
   rw [hnw]
   simp only [Prod.mk.injEq] at e
   exact⟨e.1.symm,e.2.symm⟩
  ·rw [bu,if_neg (fun q=>e q),h.seen]
   constructor
   ·rintro⟨j,j0,j1,e1⟩
    exact⟨j,j0,by simp;omega,by rw [hlt j1];exact e1⟩
   ·rintro⟨j,j0,j1,e1,e2⟩
    rcases hsplit j1 with q|rfl
    ·rw [hlt q] at e1 e2;exact⟨j,j0,q,e1,e2⟩
    ·rw [hnw] at e1 e2
     exact absurd (by rw [←e1,←e2]) e
 ·rcases hsplit j1 with q|rfl
  ·rw [hlt q,hlt (by omega)];exact h.nd j j' j0 jj q
  ·rw [hnw,hlt jj]
   rintro⟨e1,e2⟩
   exact hn ((h.seen _ _).2 ⟨j,j0,jj,e1,e2⟩)
end
end Go.Proofs.Ytmfkjilndpchbaa.Df
