import Derived.Test.YtmfkjilndpchbaaAp4
namespace Go.Proofs.Ytmfkjilndpchbaa.Ap
open Go Go.Ab Go.Pu Go.Proofs.Ytmfkjilndpchbaa.Df
open Go.Proofs.Ytmfkjilndpchbaa.Gr (Sy Ru Valid)
section
variable {g : Ty.E8} {o : List Ty.B6} {rk : Int → Nat} {gd : Int → Prop}
def RC (R:List Ru)(c:Ty.B6)(mi mo:List (Int×Int))(s t:Int)(n:Nx)(r:Ru):Prop:=
 r.Left∈c.Nons→∀n',Sub n n'→∀u,LgP R c.Nons (Pf c.Kind (Gt mi) (Gt mo) s t n') r.Right u→Pf c.Kind (Gt mi) (Gt mo) s t n' r.Left u
theorem RC.mono {R:List Ru}{c:Ty.B6}{mi mo:List (Int×Int)}{s t:Int}{n m:Nx}{r:Ru}(h:RC R c mi mo s t n r)(k:Sub n m):RC R c mi mo s t m r:=fun hl n' hn=>h hl n' (k.trans hn)
theorem concat_cases {α:Type}(l:List α):l= []∨∃m x,l=m++ [x]:=by
 rcases List.eq_nil_or_concat l with h|⟨m,x,h⟩
 ·exact .inl h
 ·exact .inr ⟨m,x,by rw [h,List.concat_eq_append]⟩
theorem rule_ok {k φ:Nat}(hk:k≤10)(hv:Valid g)(ho:OfV g o rk gd)(hP:PthOk g o rk gd k φ){a:Int}(a0:0≤a)(a1:a<g.Nons)(hrk:rk a≤k){nx n:Nx}(hsl:nx.length≤n.length){mi mo:List (Int×Int)}
 (hmi:∀b,(mget b mi).isSome=true↔b∈(el o a).Nons) (hGi:∀b∈(el o a).Nons,0≤Gt mi b∧Gt mi b<n.length) (hGo:(el o a).Kind=2→∀b∈(el o a).Nons,0≤Gt mo b∧Gt mo b<n.length)
 {s t:Int} (s0:0≤s) (s1:s<n.length) (t0:0≤t) (t1:t<n.length) (hV:Vl n) (hn:n.length≤8000) (ht:tot n+10≤300*n.length+300*(20-k)) {r:Ru} (hr:r∈g.Rules) (i:Int) {nz:Nx}:
 Ok (P.B4.b1 (P.F0 φ) s t (el o a) (g.Terms,g.Nons,g.Start,g.Rules,o,nz,mi,mo) i r (g.Terms,g.Nons,g.Start,g.Rules,o,n)) fun y=>∃n':Nx,y=(g.Terms,g.Nons,g.Start,g.Rules,o,n')∧Grw n n' 9 (1020+300*k)∧
  (n'.length≤1000→RC g.Rules (el o a) mi mo s t n' r)∧(gd a→∀S,Cpt n S→LC g.Rules (el o a).Kind (el o a).Nons (Gt mi) s t S→∃S',Agr n.length S S'∧Cpt n' S'):=by
 generalize hc:el o a=c at*
 have hnl:c.Nons.length≤10:=by rw [←hc];exact ho.nl a a0 a1
 have hkd:=ho.kd a a0 a1
 have hrk2:=ho.rk a a0 a1 r hr
 have hgk:=ho.gk a a0 a1
 have hgn:=fun h=>ho.gn a a0 a1 h r hr
 rw [hc] at hkd hrk2 hgk hgn
 have hrl:=hv.rgt r hr
 have hsy:=hv.sym r hr
 have hcont:∀z,P.C4 c.Nons z=some (decide (z∈c.Nons)):=fun z=>cN _ _ (by omega)
 unfold P.B4.b1
 dsimp only
 refine .ite (fun hno=>?_) fun hyes=>?_
 ·refine .some ⟨n,rfl,(Grw.refl hV).mono (by omega) (Nat.le_refl _),fun _ hl=>?_,fun _ S hS _=>⟨S,.refl,hS⟩⟩
  rw [←hmi] at hl;rw [hl] at hno;cases hno
 have hL:r.Left∈c.Nons:=by
  rw [←hmi]
  cases h:(mget r.Left mi).isSome with
  | true=>rfl
  | false=>rw [h] at hyes;exact absurd rfl hyes
 have hIl:=hGi _ hL
 have hout:∀m:List Sy,m.length≤4→(∀x∈m,x∈r.Right)→(∀x∈m,x.Term=false→x.N∉c.Nons)→m.length≤4∧(∀x∈m,0≤x.N∧(x.Term=false→x.N<g.Nons∧rk x.N<k))∧(gd a→∀x∈m,x.Term=false→gd x.N):=fun m h1 h2 h3=>
  ⟨h1,fun x hx=>⟨(hsy x (h2 x hx)).1,fun e=>⟨(hsy x (h2 x hx)).2.2 e,by have:=hrk2 hL x (h2 x hx) e (h3 x hx e);omega⟩⟩,fun hg x hx e=>hgn hg hL x (h2 x hx) e⟩
 refine Ok.bind (Q:=fun y=>∃n':Nx,y=(g.Terms,g.Nons,g.Start,g.Rules,o,n')∧Grw n n' 9 (1020+300*k)∧
  (n'.length≤1000→RC g.Rules c mi mo s t n' r)∧(gd a→∀S,Cpt n S→LC g.Rules c.Kind c.Nons (Gt mi) s t S→∃S',Agr n.length S S'∧Cpt n' S')) ?_ fun y hy=>by
  obtain⟨n',rfl,h⟩:=hy
  exact .some ⟨n',rfl,h⟩
 refine .ite (fun h0=>?_) fun h0=>?_
 ·
  have hRt:Rt g.Rules c.Nons:=by
   rcases hkd with h|h|h
   ·exact h.2
   ·omega
   ·omega
  rcases concat_cases r.Right with he|⟨m,x,he⟩
  ·
   have e1:Pu.W ((([]:List Sy).length:Int)-1)= -1:=by rw [aN (by simp) (by simp)];rfl
   rw [he,e1]
   rw [if_neg (by decide)]
   simp only [Option.bind_some]
   rw [if_neg (by decide)]
   simp only [Option.bind_some]
   rw [if_neg (by decide)]
   simp only [Option.bind_some]
   obtain⟨p1,p2,p3⟩:=hout [] (by simp) (by simp) (by simp)
   refine Ok.bind (hP n [] (Gt mi r.Left) t hV (by omega) (by omega) p1 p2 hIl.1 hIl.2 t0 t1) fun z hz=>?_
   obtain⟨n',rfl,h1,h2,h3⟩:=hz
   refine .some ⟨n',rfl,h1.mono (by simp) (Nat.le_refl _),fun hle _ n'' hs u hu=>?_,fun hg S hS hLC=>h3 (p3 hg) S hS fun u v hu hv=>?_⟩
   ·rw [he] at hu
    unfold Pf;rw [if_pos h0,hu.nil_eq]
    exact(h2 hle [] .nil).mono hs
   ·rw [hLC _ hL,Xb,if_pos h0]
    exact⟨u,v,rfl,.one hr (by rw [he];exact hu),hv⟩
  ·have hml:m.length+1≤4:=by have:=hrl;rw [he] at this;simpa using this
   have e1:Pu.W (((m++ [x]).length:Int)-1)=(m.length:Int):=by rw [aN (by simp only [List.length_append,List.length_singleton];omega) (by simp only [List.length_append,List.length_singleton];omega)];simp
   have e2:Pu.ix (m++ [x]) (m.length:Int)=some x:=by rw [ix_nat];simp
   have e3:Pu.sub (m++ [x]) 0 (m.length:Int)=some m:=by
    rw [cZ (by omega) (by omega) (by simp;omega)];simp
   have hmm:∀y∈m,y.Term=false→y.N∉c.Nons:=fun y hy e hmem=>by
    obtain⟨j,hj⟩:=List.getElem?_of_mem hy
    have hjl:=(List.getElem?_eq_some_iff.1 hj).1
    have:=hRt r hr hL j y (by rw [he,List.getElem?_append_left hjl];exact hj) e hmem
    rw [he] at this
    simp at this;omega
   rw [he,e1,e2]
   rw [if_pos (by simp)]
   simp only [Option.bind_some]
   by_cases hx:x.Term=false∧x.N∈c.Nons
   ·rw [hx.1]
    simp only [Bool.not_false,if_true,hcont,Option.bind_some,hx.2,decide_true,e3]
    obtain⟨p1,p2,p3⟩:=hout m (by omega) (fun y hy=>by rw [he];exact List.mem_append_left _ hy) hmm
    have hIx:=hGi _ hx.2
    refine Ok.bind (hP n m (Gt mi r.Left) (Gt mi x.N) hV (by omega) (by omega) p1 p2 hIl.1 hIl.2 hIx.1 hIx.2) fun z hz=>?_
    obtain⟨n',rfl,h1,h2,h3⟩:=hz
    obtain⟨xt,xn⟩:=x
    obtain⟨rfl,hx2⟩:=hx
    refine .some ⟨n',rfl,h1.mono (by omega) (Nat.le_refl _),fun hle _ n'' hs u hu=>?_,fun hg S hS hLC=>h3 (p3 hg) S hS fun u v hu hv=>?_⟩
    ·rw [he] at hu
     obtain⟨u1,u2,rfl,k1,k2⟩:=hu.split
     have:=k2.one_cmp hx2
     unfold Pf at this ⊢
     rw [if_pos h0] at this ⊢
     exact((h2 hle u1 (k1.lg hmm)).mono hs).app this
    ·rw [hLC _ hx2,Xb,if_pos h0] at hv
     obtain⟨u2,z,rfl,q1,q2⟩:=hv
     rw [hLC _ hL,Xb,if_pos h0]
     exact⟨u++u2,z,by simp,.one hr (by rw [he];exact hu.app q1),q2⟩
   ·have hno:∀y∈r.Right,y.Term=false→y.N∉c.Nons:=fun y hy e=>by
     rw [he] at hy
     rcases List.mem_append.1 hy with hy|hy
     ·exact hmm y hy e
     ·rw [List.mem_singleton] at hy;subst hy;exact fun q=>hx ⟨e,q⟩
    have hy8:((if(!x.Term)=true then(P.C4 c.Nons x.N).bind fun x12=>some x12 else some false):Option Bool)=some false:=by
     cases hxt:x.Term with
     | true=>rfl
     | false=>simp only [Bool.not_false,if_true,hcont,Option.bind_some];rw [decide_eq_false fun q=>hx ⟨hxt,q⟩]
    rw [hy8]
    simp only [Option.bind_some,Bool.false_eq_true,if_false]
    rw [←he]
    obtain⟨p1,p2,p3⟩:=hout r.Right hrl (fun y hy=>hy) hno
    refine Ok.bind (hP n r.Right (Gt mi r.Left) t hV (by omega) (by omega) p1 p2 hIl.1 hIl.2 t0 t1) fun z hz=>?_
    obtain⟨n',rfl,h1,h2,h3⟩:=hz
    refine .some ⟨n',rfl,h1.mono (by omega) (Nat.le_refl _),fun hle _ n'' hs u hu=>?_,fun hg S hS hLC=>h3 (p3 hg) S hS fun u v hu hv=>?_⟩
    ·unfold Pf;rw [if_pos h0]
     exact(h2 hle u (hu.lg hno)).mono hs
    ·rw [hLC _ hL,Xb,if_pos h0]
     exact⟨u,v,rfl,.one hr hu,hv⟩
 refine Ok.bind (Q:=fun y=>∃n':Nx,y=(g.Terms,g.Nons,g.Start,g.Rules,o,n')∧Grw n n' 9 (1020+300*k)∧
  (n'.length≤1000→RC g.Rules c mi mo s t n' r)∧(gd a→∀S,Cpt n S→LC g.Rules c.Kind c.Nons (Gt mi) s t S→∃S',Agr n.length S S'∧Cpt n' S')) ?_ fun y hy=>by
  obtain⟨n',rfl,h⟩:=hy
  exact .some ⟨n',rfl,h⟩
 refine .ite (fun h1=>?_) fun h1=>?_
 ·
  have hLf:Lf g.Rules c.Nons:=by
   rcases hkd with h|h|h
   ·omega
   ·exact h.2
   ·omega
  cases he:r.Right with
  | nil=>
    rw [if_neg (by simp)]
    simp only [Option.bind_some]
    rw [if_neg (by decide)]
    simp only [Option.bind_some]
    rw [if_neg (by decide)]
    simp only [Option.bind_some]
    obtain⟨p1,p2,p3⟩:=hout [] (by simp) (by simp) (by simp)
    refine Ok.bind (hP n [] s (Gt mi r.Left) hV (by omega) (by omega) p1 p2 s0 s1 hIl.1 hIl.2) fun z hz=>?_
    obtain⟨n',rfl,w1,w2,w3⟩:=hz
    refine .some ⟨n',rfl,w1.mono (by simp) (Nat.le_refl _),fun hle _ n'' hs u hu=>?_,fun hg S hS hLC=>w3 (p3 hg) S hS fun u v hu hv=>?_⟩
    ·rw [he] at hu
     unfold Pf;rw [if_neg h0,if_pos h1,hu.nil_eq]
     exact(w2 hle [] .nil).mono hs
    ·rw [hLC _ hL,Xb,if_neg h0] at hv
     exact hv u (.one hr (by rw [he];exact hu))
  | cons x m=>
    have hml:m.length+1≤4:=by have:=hrl;rw [he] at this;simpa using this
    have e2:Pu.ix (x::m) 0=some x:=rfl
    have e3:Pu.sub (x::m) 1 ((x::m).length:Int)=some m:=by
     rw [cZ (by omega) (by simp;omega) (Int.le_refl _)];simp
    have hmm:∀y∈m,y.Term=false→y.N∉c.Nons:=fun y hy e hmem=>by
     obtain⟨j,hj⟩:=List.getElem?_of_mem hy
     have:=hLf r hr hL (j+1) y (by rw [he,List.getElem?_cons_succ];exact hj) e hmem
     omega
    rw [e2,e3]
    rw [if_pos (by simp)]
    simp only [Option.bind_some]
    by_cases hx:x.Term=false∧x.N∈c.Nons
    ·rw [hx.1]
     simp only [Bool.not_false,if_true,hcont,Option.bind_some,hx.2,decide_true]
     obtain⟨p1,p2,p3⟩:=hout m (by omega) (fun y hy=>by rw [he];exact .tail _ hy) hmm
     have hIx:=hGi _ hx.2
     refine Ok.bind (hP n m (Gt mi x.N) (Gt mi r.Left) hV (by omega) (by omega) p1 p2 hIx.1 hIx.2 hIl.1 hIl.2) fun z hz=>?_
     obtain⟨n',rfl,w1,w2,w3⟩:=hz
     obtain⟨xt,xn⟩:=x
     obtain⟨rfl,hx2⟩:=hx
     refine .some ⟨n',rfl,w1.mono (by omega) (Nat.le_refl _),fun hle _ n'' hs u hu=>?_,fun hg S hS hLC=>w3 (p3 hg) S hS fun u v hu hv=>?_⟩
     ·rw [he] at hu
      obtain⟨u1,u2,rfl,k1,k2⟩:=LgP.split (l:=[⟨false,xn⟩]) (m:=m) hu
      have:=k1.one_cmp hx2
      unfold Pf at this ⊢
      rw [if_neg h0,if_pos h1] at this ⊢
      exact this.app ((w2 hle u2 (k2.lg hmm)).mono hs)
     ·rw [hLC _ hL,Xb,if_neg h0] at hv
      rw [hLC _ hx2,Xb,if_neg h0]
      intro p hp
      rw [←List.append_assoc]
      exact hv _ (.one hr (by rw [he];exact hp.app hu))
    ·have hno:∀y∈r.Right,y.Term=false→y.N∉c.Nons:=fun y hy e=>by
      rw [he] at hy
      rcases List.mem_cons.1 hy with rfl|hy
      ·exact fun q=>hx ⟨e,q⟩
      ·exact hmm y hy e
     have hy8:((if(!x.Term)=true then(P.C4 c.Nons x.N).bind fun x12=>some x12 else some false):Option Bool)=some false:=by
      cases hxt:x.Term with
      | true=>rfl
      | false=>simp only [Bool.not_false,if_true,hcont,Option.bind_some];rw [decide_eq_false fun q=>hx ⟨hxt,q⟩]
     rw [hy8]
     simp only [Option.bind_some,Bool.false_eq_true,if_false]
     rw [←he]
     obtain⟨p1,p2,p3⟩:=hout r.Right hrl (fun y hy=>hy) hno
     refine Ok.bind (hP n r.Right s (Gt mi r.Left) hV (by omega) (by omega) p1 p2 s0 s1 hIl.1 hIl.2) fun z hz=>?_
     obtain⟨n',rfl,w1,w2,w3⟩:=hz
     refine .some ⟨n',rfl,w1.mono (by omega) (Nat.le_refl _),fun hle _ n'' hs u hu=>?_,fun hg S hS hLC=>w3 (p3 hg) S hS fun u v hu hv=>?_⟩
     ·unfold Pf;rw [if_neg h0,if_pos h1]
      exact(w2 hle u (hu.lg hno)).mono hs
     ·rw [hLC _ hL,Xb,if_neg h0] at hv
      exact hv u (.one hr hu)
 ·
  have h2:c.Kind=2:=by
   rcases hkd with h|h|h
   ·exact absurd h.1 h0
   ·exact absurd h.1 h1
   ·exact h
  have hGo:=hGo h2
  have hOl:=hGo _ hL
  refine Ok.bind (aM (fun j q=>∃(n1:Nx) (f:Int) (kk:Nat),q=(g.Terms,g.Nons,g.Start,g.Rules,o,n1,f,(kk:Int))∧kk≤j∧Grw n n1 kk (1020+300*k)∧0≤f∧f<n1.length∧
   (∀y∈(r.Right.take j).drop kk,y.Term=false→y.N∉c.Nons)∧
   (n1.length≤1000→∀n'',Sub n1 n''→∀w,LgP g.Rules c.Nons (Pf c.Kind (Gt mi) (Gt mo) s t n'') (r.Right.take kk) w→Wy n'' (Gt mi r.Left) w f))
   (Q:=fun q=>∃(n1:Nx) (f:Int) (kk:Nat),q=(g.Terms,g.Nons,g.Start,g.Rules,o,n1,f,(kk:Int))∧kk≤r.Right.length∧Grw n n1 kk (1020+300*k)∧0≤f∧f<n1.length∧
     (∀y∈r.Right.drop kk,y.Term=false→y.N∉c.Nons)∧
     (n1.length≤1000→∀n'',Sub n1 n''→∀w,LgP g.Rules c.Nons (Pf c.Kind (Gt mi) (Gt mo) s t n'') (r.Right.take kk) w→Wy n'' (Gt mi r.Left) w f))
   ⟨n,Gt mi r.Left,0,rfl,Nat.le_refl _,.refl hV,hIl.1,hIl.2,by simp,fun _ n'' _ w hw=>by rw [List.take_zero] at hw;rw [hw.nil_eq];exact .nil⟩ (fun j x q hq hI=>?_) fun q hI=>?_) fun q hI=>?_
  ·obtain⟨n1,f,kk,rfl,w1,w2,w3,w4,w5,w6⟩:=hI
   obtain⟨hj,hxe⟩:=List.getElem?_eq_some_iff.1 hq
   have hxm:=List.mem_of_getElem? hq
   have hlim:=w2.lim;have hlen:=w2.len;have htt:=w2.tot
   have htk:r.Right.take (j+1)=r.Right.take j++ [x]:=by rw [List.take_add_one,hq];rfl
   unfold P.B4.b2
   dsimp only
   refine Ok.bind (Q:=fun b=>b=true↔(x.Term=false∧x.N∈c.Nons)) ?_ fun b hb=>?_
   ·cases hxt:x.Term with
    | true=>exact .some (by simp)
    | false=>simp only [Bool.not_false,if_true,hcont,Option.bind_some];exact .some (by simp)
   refine Ok.bind (Q:=fun q=>∃(n2:Nx) (f:Int) (kk:Nat),q=(g.Terms,g.Nons,g.Start,g.Rules,o,n2,f,(kk:Int))∧kk≤j+1∧Grw n n2 kk (1020+300*k)∧0≤f∧f<n2.length∧
    (∀y∈(r.Right.take (j+1)).drop kk,y.Term=false→y.N∉c.Nons)∧
    (n2.length≤1000→∀n'',Sub n2 n''→∀w,LgP g.Rules c.Nons (Pf c.Kind (Gt mi) (Gt mo) s t n'') (r.Right.take kk) w→Wy n'' (Gt mi r.Left) w f)) (.ite (fun hbt=>?_) fun hbt=>.some ?_) fun q hI=>by
      obtain⟨n2,f,kk,rfl,h⟩:=hI
      exact .some ⟨n2,f,kk,rfl,h⟩
   ·obtain⟨hx1,hx2⟩:=hb.1 hbt
    have hIx:=hGi _ hx2
    have hOx:=hGo _ hx2
    rw [cZ (by omega) (by omega) (by omega),Option.bind_some,Int.toNat_natCast,Int.toNat_natCast]
    generalize hseg:(r.Right.take j).drop kk=seg at w5 ⊢
    have hsl:seg.length=j-kk:=by rw [←hseg];simp;omega
    obtain⟨p1,p2,-⟩:=hout seg (by omega) (fun y hy=>by rw [←hseg] at hy;exact List.mem_of_mem_take (List.mem_of_mem_drop hy)) w5
    refine Ok.bind (hP n1 seg f (Gt mi x.N) w2.val (by omega) (by omega) p1 p2 w3 w4 hIx.1 (by omega)) fun z hz=>?_
    obtain⟨n',rfl,v1,v2,-⟩:=hz
    dsimp only
    rw [aN]
    have hv1:=v1.len
    refine .some ⟨n',Gt mo x.N,j+1,rfl,Nat.le_refl _,(w2.trans v1).mono (by omega) (Nat.le_refl _),hOx.1,by omega,by simp,fun hle n'' hs w hw=>?_⟩
    have et:r.Right.take (j+1)=r.Right.take kk++(seg++ [x]):=by
     rw [htk,←hseg,←List.append_assoc]
     congr 1
     have:=(List.take_append_drop kk (r.Right.take j)).symm
     rw [List.take_take,Nat.min_eq_left w1] at this
     exact this
    rw [et] at hw
    obtain⟨u1,u',rfl,k1,k'⟩:=hw.split
    obtain⟨u2,u3,rfl,k2,k3⟩:=k'.split
    obtain⟨xt,xn⟩:=x
    dsimp only at hx1 hx2
    subst hx1
    have:=k3.one_cmp hx2
    unfold Pf at this
    rw [if_neg h0,if_neg h1] at this
    exact(w6 (by omega) n'' (v1.sub.trans hs) u1 k1).app (((v2 hle u2 (k2.lg w5)).mono hs).app this)
   ·refine⟨n1,f,kk,rfl,by omega,w2,w3,w4,fun y hy=>?_,w6⟩
    rw [htk,List.drop_append_of_le_length (by simp;omega)] at hy
    rcases List.mem_append.1 hy with hy|hy
    ·exact w5 y hy
    ·rw [List.mem_singleton] at hy;subst hy
     exact fun e q=>hbt (hb.2 ⟨e,q⟩)
  ·rw [List.take_length] at hI
   exact hI
  ·obtain⟨n1,f,kk,rfl,w1,w2,w3,w4,w5,w6⟩:=hI
   have hlim:=w2.lim;have hlen:=w2.len;have htt:=w2.tot
   dsimp only
   rw [cZ (by omega) (by omega) (by omega),Option.bind_some,Int.toNat_natCast,Int.toNat_natCast,List.take_length]
   have hsl:(r.Right.drop kk).length=r.Right.length-kk:=by simp
   obtain⟨p1,p2,-⟩:=hout (r.Right.drop kk) (by omega) (fun y hy=>List.mem_of_mem_drop hy) w5
   refine Ok.bind (hP n1 (r.Right.drop kk) f (Gt mo r.Left) w2.val (by omega) (by omega) p1 p2 w3 w4 hOl.1 (by omega)) fun z hz=>?_
   obtain⟨n',rfl,v1,v2,-⟩:=hz
   refine .some ⟨n',rfl,(w2.trans v1).mono (by omega) (Nat.le_refl _),fun hle _ n'' hs u hu=>?_,fun hg=>absurd h2 (hgk hg)⟩
   rw [←List.take_append_drop kk r.Right] at hu
   obtain⟨u1,u2,rfl,k1,k2⟩:=hu.split
   have hv1:=v1.len
   unfold Pf
   rw [if_neg h0,if_neg h1]
   exact(w6 (by omega) n'' (v1.sub.trans hs) u1 k1).app ((v2 hle u2 (k2.lg w5)).mono hs)
end
end Go.Proofs.Ytmfkjilndpchbaa.Ap
