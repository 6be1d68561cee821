import Derived.Test.YtmfkjilndpchbaaHop2
namespace Go.Proofs.Ytmfkjilndpchbaa.Df
open Go Go.Ab Go.Pu
instance:Inhabited Ty.E9:=⟨⟨0,0⟩⟩
instance:DecidableEq Ty.E9:=fun a b=>decidable_of_iff (a.block=b.block∧a.by_=b.by_) (by cases a;cases b;simp)
def frun (f:Ty.K4)(s:Int)(w:List Int):Int:=w.foldl (el2 f.next_) s
def Eqv (f:Ty.K4)(m s t:Int):Prop:=∀w,Wd w m→el f.accept (frun f s w)=el f.accept (frun f t w)
theorem iT {f:Ty.K4}{N m:Int}(h:FV f N m):∀(w:List Int) (s:Int),(∀c∈w,0≤c∧c<m)→0≤s→s<N→0≤frun f s w∧frun f s w<N:=by
 intro w
 induction w with
 | nil=>intro s _ h0 h1;exact⟨h0,h1⟩
 | cons c w ih=>
   intro s hw h0 h1
   have:=h.tg s c h0 h1 (hw c (.head _)).1 (hw c (.head _)).2
   exact ih _ (fun x hx=>hw x (.tail _ hx)) this.1 this.2
theorem Wd.cons {w:List Int}{m c:Int}:Wd (c::w) m↔(0≤c∧c<m)∧Wd w m:=by
 simp only [Wd.mem,List.mem_cons]
 exact⟨fun h=>⟨h c (.inl rfl),fun x hx=>h x (.inr hx)⟩,fun⟨h1,h2⟩ x hx=>hx.elim (fun e=>e▸h1) (h2 x)⟩
theorem Eqv.step {f:Ty.K4}{m s t c:Int}(h:Eqv f m s t)(c0:0≤c)(c1:c<m):Eqv f m (el2 f.next_ s c) (el2 f.next_ t c):=fun w hw=>h (c::w) (Wd.cons.2 ⟨⟨c0,c1⟩,hw⟩)
theorem idx_task {a1:Ty.E9}(xs:List Ty.E9)(hl:(xs.length:Int)≤1000000):P.D5 xs a1=some (decide (a1∈xs)):=by
 refine Ok.eq ?_
 unfold P.D5 P.C3
 rw [bN (by omega),Option.bind_some]
 have heq:∀x:Ty.E9,((a1.block==x.block)&&(a1.by_==x.by_))=true↔a1=x:=fun x=>by
  cases a1;cases x;simp
 refine Ok.bind (Q:=fun r=>0≤r↔a1∈xs) (Ok.bind (cG (fun i (_:Unit)=>∀j:Nat,j<i→xs[j]? ≠some a1) (Q:=fun r=>r.cs (fun _=>a1∉xs) (fun r=>0≤r∧a1∈xs)) (fun j hj=>by omega) (fun i x s hx hs=>?_) fun s hs=>?_) fun r hr=>?_) fun r hr=>.some (decide_eq_decide.2 hr)
 ·obtain⟨rfl,hi⟩:=ce hx
  unfold P.C3.b0
  rw [aG (by omega) (by omega),Option.bind_some]
  refine .ite (fun e=>.some ⟨by omega,by rw [(heq _).1 e];exact ef (by omega) (by omega)⟩) fun e=>.some fun j hj=>?_
  rcases(by omega:j<i∨j=i) with q|rfl
  ·exact hs j q
  ·rw [gE (by omega)];intro q;exact e ((heq _).2 (Option.some.inj q).symm)
 ·rw [ba] at hs
  intro hb
  obtain⟨i,hi⟩:=List.getElem?_of_mem hb
  exact hs i (by have:=(List.getElem?_eq_some_iff.1 hi).1;omega) hi
 ·cases r with
  | out s=>exact .some ⟨fun q=>absurd q (by omega),fun q=>absurd q hr⟩
  | rt r=>exact .some ⟨fun _=>hr.2,fun _=>hr.1⟩
structure TN (t0 t1:List Ty.E9)(out:List (Int×Int))(m nb:Int):Prop where
 sub:∀t∈t0,t∈t1
 new:∀p∈out,∀c,0≤c→c<m→((⟨p.1,c⟩:Ty.E9)∈t1∨(⟨p.2,c⟩:Ty.E9)∈t1)∧((⟨p.1,c⟩:Ty.E9)∈t0→(⟨p.2,c⟩:Ty.E9)∈t1)
 rg:(∀t∈t0,0≤t.block∧t.block<nb∧0≤t.by_∧t.by_<m)→∀t∈t1,0≤t.block∧t.block<nb∧0≤t.by_∧t.by_<m
 len:(t1.length:Int)=t0.length+out.length*m
theorem tasks_ok {f:Ty.K4}{N m:Int}(h:FV f N m){x15:Ty.K5×List (Int×Int)}{t0:List Ty.E9}(hp:PV x15.1.of_ x15.1.blocks N)(hrg:∀p∈x15.2,0≤p.1∧p.1<x15.1.blocks.length∧0≤p.2∧p.2<x15.1.blocks.length)
 (hb:(t0.length:Int)+x15.2.length*m≤100000):Ok (Pu.forP (P.B9.b4 f x15) 0 x15.2 t0) fun t1=>TN t0 t1 x15.2 m x15.1.blocks.length:=by
 have m1:=h.m1;have m2:=h.m2
 refine aM (fun i (t1:List Ty.E9)=>TN t0 t1 (x15.2.take i) m x15.1.blocks.length) ⟨fun t q=>q,fun p q=>by simp at q,fun q=>q,by simp⟩ (fun i p t1 hx hs=>?_) fun t1 hs=>by rwa [List.take_length] at hs
 have hi:=(List.getElem?_eq_some_iff.1 hx).1
 have hpr:=hrg p (List.mem_of_getElem? hx)
 have ht:x15.2.take (i+1)=x15.2.take i++ [p]:=by rw [List.take_add_one,hx];rfl
 have hil:((x15.2.take i).length:Int)=i:=by simp;omega
 have hmul:(i:Int)*m+m≤x15.2.length*m:=by
  have:((i:Int)+1)*m≤x15.2.length*m:=Int.mul_le_mul_of_nonneg_right (by omega) (by omega)
  rw [Int.add_mul] at this;omega
 have hlen:=hs.len
 rw [hil] at hlen
 unfold P.B9.b4
 rw [h.pl,bN (by omega),Option.bind_some]
 refine Ok.bind (aM (fun k (t2:List Ty.E9)=>(∀t∈t1,t∈t2)∧(∀c:Int,0≤c→c<k→((⟨p.1,c⟩:Ty.E9)∈t2∨(⟨p.2,c⟩:Ty.E9)∈t2)∧((⟨p.1,c⟩:Ty.E9)∈t0→(⟨p.2,c⟩:Ty.E9)∈t2))∧
  ((∀t∈t1,0≤t.block∧t.block<x15.1.blocks.length∧0≤t.by_∧t.by_<m)→∀t∈t2,0≤t.block∧t.block<x15.1.blocks.length∧0≤t.by_∧t.by_<m)∧(t2.length:Int)=t1.length+k)
  (Q:=fun t2=>(∀t∈t1,t∈t2)∧(∀c:Int,0≤c→c<m→((⟨p.1,c⟩:Ty.E9)∈t2∨(⟨p.2,c⟩:Ty.E9)∈t2)∧((⟨p.1,c⟩:Ty.E9)∈t0→(⟨p.2,c⟩:Ty.E9)∈t2))∧
    ((∀t∈t1,0≤t.block∧t.block<x15.1.blocks.length∧0≤t.by_∧t.by_<m)→∀t∈t2,0≤t.block∧t.block<x15.1.blocks.length∧0≤t.by_∧t.by_<m)∧(t2.length:Int)=t1.length+m)
  ⟨fun t q=>q,fun c c0 c1=>by omega,fun q=>q,by simp⟩ (fun k y t2 hy hq=>?_) fun t2 hq=>?_) fun t2 hq=>.some ?_
 ·obtain⟨rfl,hk⟩:=ce hy
  obtain⟨b1,b2,b3,b4⟩:=hq
  unfold P.B9.b5
  rw [aG hpr.1 hpr.2.1,Option.bind_some,aG hpr.2.2.1 hpr.2.2.2,Option.bind_some]
  have hsel:Ok ((if decide (((el x15.1.blocks p.1).length:Int)<((el x15.1.blocks p.2).length:Int))=true then(P.D5 t2 ⟨p.1,(k:Int)⟩).bind fun x21=>some (!x21) else some false).bind fun y8=>if y8=true then some p.1 else some p.2)
   fun z=>z=p.1∧(⟨p.1,(k:Int)⟩:Ty.E9)∉t2∨z=p.2:=by
   refine Ok.bind (Q:=fun b=>b=true→(⟨p.1,(k:Int)⟩:Ty.E9)∉t2) (.ite (fun _=>?_) fun _=>.some (fun q=>by cases q)) fun b hb=>.ite (fun q=>.some (.inl ⟨rfl,hb q⟩)) fun _=>.some (.inr rfl)
   rw [idx_task _ (by omega),Option.bind_some]
   exact .some (fun q=>by simpa using q)
  obtain⟨z,hz1,hz2⟩:=hsel
  have e1:∀{g:Int→Option (List Ty.E9)},((if decide (((el x15.1.blocks p.1).length:Int)<((el x15.1.blocks p.2).length:Int))=true then(P.D5 t2 ⟨p.1,(k:Int)⟩).bind fun x21=>some (!x21) else some false).bind fun y8=>(if y8=true then some p.1 else some p.2).bind g)=g z:=fun {g}=>by
   rw [←Option.bind_assoc,hz1,Option.bind_some]
  rw [e1,bk (by simp;omega),Option.bind_some]
  refine .some ⟨fun t q=>List.mem_append_left _ (b1 t q),fun c c0 c1=>?_,fun q t q2=>?_,by simp [b4];omega⟩
  ·rcases(by omega:c<(k:Int)∨c=(k:Int)) with q|rfl
   ·obtain⟨d1,d2⟩:=b2 c c0 q
    exact⟨d1.imp (List.mem_append_left _) (List.mem_append_left _),fun q=>List.mem_append_left _ (d2 q)⟩
   ·rcases hz2 with⟨rfl,q2⟩|rfl
    ·exact⟨.inl (by simp),fun q=>absurd (b1 _ (hs.sub _ q)) q2⟩
    ·exact⟨.inr (by simp),fun _=>by simp⟩
  ·rcases List.mem_append.1 q2 with q3|q3
   ·exact b3 q t q3
   ·rw [List.mem_singleton] at q3;subst q3
    dsimp only
    rcases hz2 with⟨rfl,-⟩|rfl
    ·exact⟨hpr.1,hpr.2.1,by omega,hk⟩
    ·exact⟨hpr.2.2.1,hpr.2.2.2,by omega,hk⟩
 ·rw [ba,show((m.toNat:Nat):Int)=m by omega] at hq
  exact hq
 ·obtain⟨b1,b2,b3,b4⟩:=hq
  refine⟨fun t q=>b1 t (hs.sub t q),fun p' q c c0 c1=>?_,fun q=>b3 (hs.rg q),?_⟩
  ·rw [ht] at q
   rcases List.mem_append.1 q with q|q
   ·obtain⟨d1,d2⟩:=hs.new p' q c c0 c1
    exact⟨d1.imp (b1 _) (b1 _),fun q=>b1 _ (d2 q)⟩
   ·rw [List.mem_singleton] at q;subst q
    exact b2 c c0 c1
  ·rw [b4,hlen,ht,List.length_append,List.length_singleton]
   have:(((x15.2.take i).length+1:Nat):Int)*m=(i:Int)*m+m:=by
    rw [Int.natCast_add,hil,Int.add_mul];simp
   omega
structure HI (f:Ty.K4)(of:List Int)(bs:List (List Int))(todo:List Ty.E9)(N m:Int):Prop where
 pv:PV of bs N
 acc:∀s t,0≤s→s<N→0≤t→t<N→el of s=el of t→el f.accept s=el f.accept t
 snd:∀s t,0≤s→s<N→0≤t→t<N→Eqv f m s t→el of s=el of t
 task:∀t∈todo,0≤t.block∧t.block<bs.length∧0≤t.by_∧t.by_<m
 spl:∀s t c,0≤s→s<N→0≤t→t<N→0≤c→c<m→el of s=el of t→el of (el2 f.next_ s c)≠el of (el2 f.next_ t c)→(⟨el of (el2 f.next_ s c),c⟩:Ty.E9)∈todo∨(⟨el of (el2 f.next_ t c),c⟩:Ty.E9)∈todo
 len:(todo.length:Int)+(N-bs.length)*m≤N*m
theorem HI.next {f:Ty.K4}{of of':List Int}{bs bs':List (List Int)}{todo todo':List Ty.E9}{out:List (Int×Int)}{l:List Int}{N m b c:Int}(hf:FV f N m)(h:HI f of bs (todo++ [⟨b,c⟩]) N m)
 (hl:∀s,s∈l↔0≤s∧s<N∧el of (el2 f.next_ s c)=b) (hs:SV of of' bs bs' out l N) (ht:TN todo todo' out m bs'.length):HI f of' bs' todo' N m:=by
 have htk:=h.task ⟨b,c⟩ (by simp)
 dsimp only at htk
 have m1:=hf.m1
 have hle:(bs.length:Int)≤bs'.length:=by have:=hs.cnt;omega
 refine⟨hs.pv,fun s t s0 s1 t0 t1 e=>h.acc s t s0 s1 t0 t1 ((hs.iff s t s0 s1 t0 t1).1 e).1,fun s t s0 s1 t0 t1 e=>?_,?_,fun s t e s0 s1 t0 t1 e0 e1 hst hne=>?_,?_⟩
 ·refine(hs.iff s t s0 s1 t0 t1).2 ⟨h.snd s t s0 s1 t0 t1 e,?_⟩
  rw [hl,hl]
  have u1:=hf.tg s c s0 s1 htk.2.2.1 htk.2.2.2
  have u2:=hf.tg t c t0 t1 htk.2.2.1 htk.2.2.2
  rw [h.snd _ _ u1.1 u1.2 u2.1 u2.2 (e.step htk.2.2.1 htk.2.2.2)]
  constructor
  ·rintro⟨-,-,q⟩;exact⟨t0,t1,q⟩
  ·rintro⟨-,-,q⟩;exact⟨s0,s1,q⟩
 ·exact ht.rg fun t q=>by
   have:=h.task t (by simp [q])
   omega
 ·have u1:=hf.tg s e s0 s1 e0 e1
  have u2:=hf.tg t e t0 t1 e0 e1
  generalize hu:el2 f.next_ s e=u at*
  generalize hv:el2 f.next_ t e=v at*
  have old:=(hs.iff s t s0 s1 t0 t1).1 hst
  have moved:∀x,0≤x→x<N→el of' x≠el of x→∃p∈out,p.1=el of x∧p.2=el of' x:=fun x x0 x1 q=>⟨_,(hs.chg x x0 x1 q).1,rfl,rfl⟩
  by_cases huv:el of u=el of v
  ·
   have key:∀u v:Int,0≤u→u<N→0≤v→v<N→el of u=el of v→el of' u≠el of' v→el of' v≠el of v→(⟨el of' u,e⟩:Ty.E9)∈todo'∨(⟨el of' v,e⟩:Ty.E9)∈todo':=fun u v u0 u1 v0 v1 huv hne q=>by
    obtain⟨p,p1,p2,p3⟩:=moved v v0 v1 q
    have hu':el of' u=el of u:=by
     refine Classical.byContradiction fun q2=>hne ?_
     refine(hs.iff u v u0 u1 v0 v1).2 ⟨huv,?_⟩
     have hout:∀x,0≤x→x<N→el of' x≠el of x→¬x∈l:=fun x x0 x1 q3=>(hs.chg x x0 x1 q3).2.2
     exact⟨fun q3=>absurd q3 (hout u u0 u1 q2),fun q3=>absurd q3 (hout v v0 v1 q)⟩
    have hn:=(ht.new p p1 e e0 e1).1
    rw [p2,p3] at hn
    rw [hu',huv];exact hn
   by_cases q:el of' v=el of v
   ·have q2:el of' u≠el of u:=fun q2=>hne (by rw [q,q2,huv])
    exact(key v u u2.1 u2.2 u1.1 u1.2 huv.symm (fun q=>hne q.symm) q2).symm
   ·exact key u v u1.1 u1.2 u2.1 u2.2 huv hne q
  ·
   have key:∀u:Int,0≤u→u<N→(⟨el of u,e⟩:Ty.E9)∈todo→(⟨el of' u,e⟩:Ty.E9)∈todo':=fun u u0 u1 q=>by
    by_cases q2:el of' u=el of u
    ·rw [q2];exact ht.sub _ q
    ·obtain⟨p,p1,p2,p3⟩:=moved u u0 u1 q2
     have hn:=(ht.new p p1 e e0 e1).2
     rw [p2,p3] at hn
     exact hn q
   have hnl:¬(b=el of u∧c=e)∧¬(b=el of v∧c=e):=by
    constructor
    ·rintro⟨rfl,rfl⟩
     have h1:s∈l:=(hl s).2 ⟨s0,s1,by rw [hu]⟩
     have h2:=(hl t).1 (old.2.1 h1)
     rw [hv] at h2
     exact huv h2.2.2.symm
    ·rintro⟨rfl,rfl⟩
     have h1:t∈l:=(hl t).2 ⟨t0,t1,by rw [hv]⟩
     have h2:=(hl s).1 (old.2.2 h1)
     rw [hu] at h2
     exact huv h2.2.2
   have hst0:=h.spl s t e s0 s1 t0 t1 e0 e1 old.1 (by rw [hu,hv];exact huv)
   rw [hu,hv] at hst0
   rcases hst0 with q|q
   ·rcases List.mem_append.1 q with q|q
    ·exact .inl (key u u1.1 u1.2 q)
    ·rw [List.mem_singleton] at q
     simp only [Ty.E9.mk.injEq] at q
     exact absurd ⟨q.1.symm,q.2.symm⟩ hnl.1
   ·rcases List.mem_append.1 q with q|q
    ·exact .inr (key v u2.1 u2.2 q)
    ·rw [List.mem_singleton] at q
     simp only [Ty.E9.mk.injEq] at q
     exact absurd ⟨q.1.symm,q.2.symm⟩ hnl.2
 ·have h1:=h.len
  have h2:=ht.len
  have h3:=hs.cnt
  rw [List.length_append,List.length_singleton] at h1
  have e3:(N-(bs'.length:Int))*m=(N-(bs.length:Int))*m-out.length*m:=by
   rw [h3,Int.natCast_add,←Int.sub_mul];congr 1;omega
  rw [h2,e3]
  have:((todo.length+1:Nat):Int)=todo.length+1:=by omega
  omega
theorem hop_ok {f:Ty.K4}{N m:Int}(h:FV f N m){φ:Nat}(hφ:4000≤φ):Ok (P.B9 φ f) fun of=>(of.length:Int)=N∧∀s t,0≤s→s<N→0≤t→t<N→(el of s=el of t↔Eqv f m s t):=by
 have n1:=h.n1;have n2:=h.n2;have m1:=h.m1;have m2:=h.m2
 have hNm:N*m≤3216:=by
  have:N*m≤201*m:=Int.mul_le_mul_of_nonneg_right n2 (by omega)
  omega
 unfold P.B9
 refine(begin_ok h.acc (by omega)).bind fun p ⟨hp,hpa⟩=>?_
 have hc:=hp.count (by omega)
 rw [bN (by omega),Option.bind_some]
 refine Ok.bind (aM (fun i (t:List Ty.E9)=>(∀b c:Int,0≤b→b<i→0≤c→c<m→(⟨b,c⟩:Ty.E9)∈t)∧(∀z∈t,0≤z.block∧z.block<p.blocks.length∧0≤z.by_∧z.by_<m)∧(t.length:Int)=i*m)
  (Q:=fun t=>(∀b c:Int,0≤b→b<p.blocks.length→0≤c→c<m→(⟨b,c⟩:Ty.E9)∈t)∧(∀z∈t,0≤z.block∧z.block<p.blocks.length∧0≤z.by_∧z.by_<m)∧(t.length:Int)=p.blocks.length*m)
  ⟨fun b c b0 b1=>by omega,fun z q=>by simp at q,by simp⟩ (fun i x t hx ht=>?_) fun t ht=>?_) fun todo htd=>?_
 ·obtain⟨rfl,hi⟩:=ce hx
  obtain⟨a1,a2,a3⟩:=ht
  have him:(i:Int)*m+m≤N*m:=by
   have:((i:Int)+1)*m≤N*m:=Int.mul_le_mul_of_nonneg_right (by omega) (by omega)
   rw [Int.add_mul] at this;omega
  unfold P.B9.b0
  rw [h.pl,bN (by omega),Option.bind_some]
  refine Ok.bind (aM (fun k (q:List Ty.E9)=>(∀z∈t,z∈q)∧(∀c:Int,0≤c→c<k→(⟨i,c⟩:Ty.E9)∈q)∧(∀z∈q,0≤z.block∧z.block<p.blocks.length∧0≤z.by_∧z.by_<m)∧(q.length:Int)=i*m+k)
   (Q:=fun q=>(∀z∈t,z∈q)∧(∀c:Int,0≤c→c<m→(⟨i,c⟩:Ty.E9)∈q)∧(∀z∈q,0≤z.block∧z.block<p.blocks.length∧0≤z.by_∧z.by_<m)∧(q.length:Int)=i*m+m) ⟨fun z q=>q,fun c c0 c1=>by omega,a2,by rw [a3];simp⟩ (fun k y q hy hq=>?_) fun q hq=>?_) fun q hq=>.some ⟨fun b c b0 b1 c0 c1=>?_,hq.2.2.1,?_⟩
  ·obtain⟨rfl,hk⟩:=ce hy
   obtain⟨b1,b2,b3,b4⟩:=hq
   unfold P.B9.b1
   rw [bk (by simp;omega),Option.bind_some]
   refine .some ⟨fun z w=>List.mem_append_left _ (b1 z w),fun c c0 c1=>?_,fun z w=>?_,by simp;omega⟩
   ·rcases(by omega:c<(k:Int)∨c=(k:Int)) with e|rfl
    ·exact List.mem_append_left _ (b2 c c0 e)
    ·simp
   ·rcases List.mem_append.1 w with w|w
    ·exact b3 z w
    ·rw [List.mem_singleton] at w;subst w
     exact⟨by dsimp only;omega,hi,by dsimp only;omega,hk⟩
  ·rw [ba,show((m.toNat:Nat):Int)=m by omega] at hq;exact hq
  ·rcases(by omega:b<(i:Int)∨b=(i:Int)) with e|rfl
   ·exact hq.1 _ (a1 b c b0 e c0 c1)
   ·exact hq.2.1 c c0 c1
  ·rw [hq.2.2.2,show((i+1:Nat):Int)=(i:Int)+1 by omega,Int.add_mul];omega
 ·rw [ba] at ht
  simpa using ht
 ·obtain⟨d1,d2,d3⟩:=htd
  refine Ok.bind (bF (fun s=>HI f s.1 s.2.1 s.2.2 N m) (fun s=>(s.2.2.length+(N-s.2.1.length)*m).toNat)
   (Q:=fun r=>∃s,r= .out s∧HI f s.1 s.2.1 [] N m) ⟨hp,fun s t s0 s1 t0 t1=>(hpa s t s0 s1 t0 t1).1,fun s t s0 s1 t0 t1 e=>(hpa s t s0 s1 t0 t1).2 (e [] Wd.nil),d2,fun s t c s0 s1 t0 t1 c0 c1 _ _=>?_,?_⟩ (fun s hs=>?_) ?_) fun r hr=>?_
  ·have u:=h.tg s c s0 s1 c0 c1
   have:=hp.rg _ u.1 u.2
   exact .inl (d1 _ c this.1 this.2 c0 c1)
  ·dsimp only;rw [d3,Int.sub_mul];omega
  ·obtain⟨of,bs,td⟩:=s
   dsimp only at hs ⊢
   have hcnt:=hs.pv.count (by omega)
   have hlen:=hs.len
   have hnn:0≤(N-(bs.length:Int))*m:=Int.mul_nonneg (by omega) (by omega)
   unfold P.B9.b2
   dsimp only
   refine .ite (fun hpos=>?_) fun hz=>?_
   ·rw [show Pu.W ((td.length:Int)-1)=td.length-1 by rw [aN]]
    rcases List.eq_nil_or_concat td with rfl|⟨todo',tk,rfl⟩
    ·simp at hpos
    ·rw [List.concat_eq_append] at hs hlen hpos ⊢
     obtain⟨b,c⟩:=tk
     have htk:=hs.task ⟨b,c⟩ (by simp)
     dsimp only at htk
     have hl1:(((todo'++ [(⟨b,c⟩:Ty.E9)]).length:Nat):Int)-1=todo'.length:=by simp
     rw [hl1]
     have hget:el (todo'++ [(⟨b,c⟩:Ty.E9)]) (todo'.length:Int)=⟨b,c⟩:=aT (by simp)
     rw [aG (by omega) (by rw [List.length_append,List.length_singleton];omega),Option.bind_some,hget,cZ (by omega) (by omega) (by rw [List.length_append,List.length_singleton];omega),Option.bind_some]
     have htake:((todo'++ [(⟨b,c⟩:Ty.E9)]).take ((todo'.length:Int)).toNat).drop (0:Int).toNat=todo':=by
      rw [Int.toNat_natCast,List.take_append_of_le_length (by omega),List.take_of_length_le (by omega)];rfl
     rw [htake]
     dsimp only
     rw [aG htk.1 htk.2.1,Option.bind_some]
     have hbl:=hs.pv.len b htk.1 htk.2.1
     have hpc:=h.pr c htk.2.2.1 htk.2.2.2
     refine Ok.bind (aM (fun i (l:List Int)=>(l.length:Int)≤i*N∧∀s,s∈l↔∃t∈(el bs b).take i,s∈el (el f.prev c) t)
      (Q:=fun l=>(l.length:Int)≤1000000∧∀s,s∈l↔0≤s∧s<N∧el of (el2 f.next_ s c)=b) ⟨by simp,fun s=>by simp⟩ (fun i t l hx hl=>?_) fun l hl=>?_) fun l hl=>?_
     ·obtain⟨e1,e2⟩:=hl
      have hi:=(List.getElem?_eq_some_iff.1 hx).1
      have htm:=(hs.pv.mem b htk.1 htk.2.1 t).1 (List.mem_of_getElem? hx)
      have hpt:=hpc.2 t htm.1 htm.2.1
      have htk2:(el bs b).take (i+1)=(el bs b).take i++ [t]:=by rw [List.take_add_one,hx];rfl
      have hiN:(i:Int)*N≤201*201:=by
       have h1:(i:Int)*N≤201*N:=Int.mul_le_mul_of_nonneg_right (by omega) (by omega)
       omega
      unfold P.B9.b3
      dsimp only
      rw [aG htk.2.2.1 (by rw [h.pl];exact htk.2.2.2),Option.bind_some,aG htm.1 (by rw [hpc.1];exact htm.2.1),Option.bind_some,bk (by omega),Option.bind_some]
      refine .some ⟨?_,fun s=>?_⟩
      ·rw [List.length_append,show((i+1:Nat):Int)=(i:Int)+1 by omega,Int.add_mul];omega
      ·rw [List.mem_append,e2,htk2]
       constructor
       ·rintro(⟨z,z1,z2⟩|q)
        ·exact⟨z,by simp [z1],z2⟩
        ·exact⟨t,by simp,q⟩
       ·rintro⟨z,z1,z2⟩
        rcases List.mem_append.1 z1 with q|q
        ·exact .inl ⟨z,q,z2⟩
        ·rw [List.mem_singleton] at q;subst q;exact .inr z2
     ·rw [List.take_length] at hl
      obtain⟨e1,e2⟩:=hl
      have hiN:((el bs b).length:Int)*N≤201*201:=by
       have h1:((el bs b).length:Int)*N≤201*N:=Int.mul_le_mul_of_nonneg_right (by omega) (by omega)
       omega
      refine⟨by omega,fun s=>?_⟩
      rw [e2]
      constructor
      ·rintro⟨t,t1,t2⟩
       have htm:=(hs.pv.mem b htk.1 htk.2.1 t).1 t1
       obtain⟨s0,s1,s2⟩:=((hpc.2 t htm.1 htm.2.1).2 s).1 t2
       exact⟨s0,s1,by rw [s2];exact htm.2.2⟩
      ·rintro⟨s0,s1,s2⟩
       have u:=h.tg s c s0 s1 htk.2.2.1 htk.2.2.2
       exact⟨el2 f.next_ s c,(hs.pv.mem b htk.1 htk.2.1 _).2 ⟨u.1,u.2,s2⟩,((hpc.2 _ u.1 u.2).2 s).2 ⟨s0,s1,rfl⟩⟩
     ·obtain⟨l1,l2⟩:=hl
      refine(split_ok hs.pv (by omega) (by omega) (fun s q=>⟨((l2 s).1 q).1,((l2 s).1 q).2.1⟩) l1).bind fun r hsv=>?_
      have hcnt2:=hsv.pv.count (by omega)
      have hcn:=hsv.cnt
      have ho:(r.2.length:Int)*m≤(N-(bs.length:Int))*m:=Int.mul_le_mul_of_nonneg_right (by omega) (by omega)
      rw [List.length_append,List.length_singleton] at hlen
      refine(tasks_ok h hsv.pv hsv.rg (by omega)).bind fun t1 ht1=>.some ?_
      have hnx:=hs.next h l2 hsv ht1
      refine⟨hnx,?_⟩
      dsimp only
      have h2:=ht1.len
      have e3:(N-(r.1.blocks.length:Int))*m=(N-(bs.length:Int))*m-r.2.length*m:=by
       rw [hcn,Int.natCast_add,←Int.sub_mul];congr 1;omega
      rw [e3,h2,List.length_append,List.length_singleton]
      have:0≤(r.2.length:Int)*m:=Int.mul_nonneg (by omega) (by omega)
      omega
   ·have:td= []:=List.eq_nil_of_length_eq_zero (by omega)
    subst this
    exact .some ⟨_,rfl,hs⟩
  ·dsimp only
   rw [d3,Int.sub_mul]
   omega
  ·obtain⟨s,rfl,hs⟩:=hr
   refine .some ⟨hs.pv.ol,fun x y x0 x1 y0 y1=>⟨fun e w hw=>?_,hs.snd x y x0 x1 y0 y1⟩⟩
   have key:∀(w:List Int) (x y:Int),Wd w m→0≤x→x<N→0≤y→y<N→el s.1 x=el s.1 y→el f.accept (frun f x w)=el f.accept (frun f y w):=by
    intro w
    induction w with
    | nil=>intro x y _ x0 x1 y0 y1 e;exact hs.acc x y x0 x1 y0 y1 e
    | cons c w ih=>
      intro x y hw x0 x1 y0 y1 e
      rw [Wd.cons] at hw
      have u:=h.tg x c x0 x1 hw.1.1 hw.1.2
      have v:=h.tg y c y0 y1 hw.1.1 hw.1.2
      refine ih _ _ hw.2 u.1 u.2 v.1 v.2 ?_
      refine Classical.byContradiction fun q=>?_
      have:=hs.spl x y c x0 x1 y0 y1 hw.1.1 hw.1.2 e q
      simp at this
   exact key w x y hw x0 x1 y0 y1 e
end Go.Proofs.Ytmfkjilndpchbaa.Df
