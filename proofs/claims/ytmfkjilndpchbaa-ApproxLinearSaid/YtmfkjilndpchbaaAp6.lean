import Derived.Test.YtmfkjilndpchbaaAp5
namespace Go.Proofs.Ytmfkjilndpchbaa.Ap
open Go Go.Ab Go.Pu Go.Proofs.Ytmfkjilndpchbaa.Df
open Go.Proofs.Ytmfkjilndpchbaa.Gr (Sy Ru Valid)
section
variable {g : Ty.E8} {o : List Ty.B6} {rk : Int → Nat} {gd : Int → Prop}
theorem LC.agr {R:List Ru}{kd:Int}{N:List Int}{I:Int→Int}{s t:Int}{S S':Lab}{n:Nat}(h:LC R kd N I s t S)(k:Agr n S S')(hI:∀b∈N,0≤I b∧I b<n)(s0:0≤s)(s1:s<n)(t0:0≤t)(t1:t<n):LC R kd N I s t S':=by
 intro b hb v
 have hb2:=hI b hb
 have:=h b hb v
 unfold Xb at this ⊢
 rw [k _ hb2.1 hb2.2,k s s0 s1,k t t0 t1];exact this
theorem jt {k φ:Nat}(hk:k≤10)(hv:Valid g)(ho:OfV g o rk gd)(hP:PthOk g o rk gd k φ):AddOk g o rk gd k (φ+1):=by
 intro nx a s t hV hn ht a0 a1 hrk s0 s1 t0 t1
 unfold P.B4
 dsimp only
 refine .ite (fun hbig=>.some ⟨nx,rfl,(Grw.refl (lim:=0) hV).mono (Nat.le_refl _) (by omega),fun h=>by omega,fun _ S hS _=>⟨S,.refl,hS⟩⟩) fun hsm=>?_
 have hol:=ho.len
 rw [aG a0 (by omega),Option.bind_some]
 have hnl:=ho.nl a a0 a1
 have hma:=ho.mem a a0 a1
 have hkd:=ho.kd a a0 a1
 have hgk:=ho.gk a a0 a1
 have hrl:=hv.len
 refine(states_ok (g:=g) (o:=o) hnl hV (by omega)).bind fun q hq=>?_
 obtain⟨n1,mi,mo,rfl,h1,h2,h3,h4,h5,h6,h7,h8⟩:=hq
 generalize hc:el o a=c at*
 have hcl:1≤c.Nons.length:=List.length_pos_iff.2 fun e=>by rw [e] at hma;cases hma
 have hV1:Vl n1:=fun x b d e=>by have:=hV _ _ _ ((h1 x b d).1 e);omega
 have hIa:=h6 _ hma
 dsimp only
 refine Ok.bind (Q:=fun y=>∃n2:Nx,y=(g.Terms,g.Nons,g.Start,g.Rules,o,n2)∧Grw n1 n2 2 (1020+300*k)∧n2.length=n1.length∧
  (∀n' w,Sub n2 n'→Pf c.Kind (Gt mi) (Gt mo) s t n' a w→Wy n' s w t)∧
  (gd a→∀S,Cpt n1 S→LC g.Rules c.Kind c.Nons (Gt mi) s t S→(∀u v,Lg g.Rules [⟨false,a⟩] u→S t v→S s (u++v))→Cpt n2 S)) (.ite (fun k1=>?_) fun k1=>?_) fun y hy=>?_
 ·rw [show((Pu.mget a mi).getD 0)=Gt mi a from rfl,dV hIa.1 hIa.2 (by omega),Option.bind_some]
  refine .some ⟨_,rfl,(dv hV1 hIa.1 hIa.2 (by omega) t0 (by omega)).mono (by omega) (Nat.le_refl _),cH,fun n' w hs hp=>?_,fun hg S hS hLC h=>fr hIa.1 hIa.2 hS (fun _ v hv=>?_) fun e=>by omega⟩
  ·unfold Pf at hp
   rw [if_neg (by omega),if_pos k1] at hp
   simpa using hp.app (.one (hs _ _ _ ((cW hIa.1 hIa.2).2 (.inr ⟨rfl,rfl,rfl⟩))))
  ·show S (Gt mi a) v
   rw [hLC a hma,Xb,if_neg (by omega)]
   exact fun u hu=>h u v hu hv
 ·refine Ok.bind (Q:=fun y=>∃n2:Nx,y=(g.Terms,g.Nons,g.Start,g.Rules,o,n2)∧Grw n1 n2 2 (1020+300*k)∧n2.length=n1.length∧
   (∀n' w,Sub n2 n'→Pf c.Kind (Gt mi) (Gt mo) s t n' a w→Wy n' s w t)∧
   (gd a→∀S,Cpt n1 S→LC g.Rules c.Kind c.Nons (Gt mi) s t S→(∀u v,Lg g.Rules [⟨false,a⟩] u→S t v→S s (u++v))→Cpt n2 S)) (.ite (fun k0=>?_) fun k0=>?_) fun y hy=>by
     obtain⟨n2,rfl,h⟩:=hy
     exact .some ⟨n2,rfl,h⟩
  ·rw [show((Pu.mget a mi).getD 0)=Gt mi a from rfl,dV s0 (by omega) (by omega),Option.bind_some]
   refine .some ⟨_,rfl,(dv hV1 s0 (by omega) (by omega) hIa.1 hIa.2).mono (by omega) (Nat.le_refl _),cH,fun n' w hs hp=>?_,fun hg S hS hLC h=>fr s0 (by omega) hS (fun _ v hv=>?_) fun e=>by omega⟩
   ·unfold Pf at hp
    rw [if_pos k0] at hp
    exact .eps (hs _ _ _ ((cW s0 (by omega)).2 (.inr ⟨rfl,rfl,rfl⟩))) hp
   ·have hv:S (Gt mi a) v:=hv
    rw [hLC a hma,Xb,if_pos k0] at hv
    obtain⟨u,z,rfl,q1,q2⟩:=hv
    exact h u z q1 q2
  ·have k2:c.Kind=2:=by
    rcases hkd with h|h|h
    ·exact absurd h.1 k0
    ·exact absurd h.1 k1
    ·exact h
   have hOa:=h7 k2 _ hma
   rw [dV s0 (by omega) (by omega),Option.bind_some]
   have g1:Grw n1 (lnk n1 s (-1) (Gt mi a)) 1 (1020+300*k):=dv hV1 s0 (by omega) (by omega) hIa.1 hIa.2
   have hl1:(lnk n1 s (-1) (Gt mi a)).length=n1.length:=cH
   have htl:=gQ (c:= -1) (t:=Gt mi a) s0 (by omega:s<n1.length)
   have eO0:0≤Gt mo a:=hOa.1
   have eO1:Gt mo a<(lnk n1 s (-1) (Gt mi a)).length:=by rw [hl1];exact hOa.2
   rw [show((Pu.mget a mi).getD 0)=Gt mi a from rfl,show((Pu.mget a mo).getD 0)=Gt mo a from rfl,dV eO0 eO1 (by omega),Option.bind_some]
   refine .some ⟨_,rfl,(g1.trans (dv g1.val eO0 eO1 (by omega) t0 (by omega))).mono (by omega) (Nat.le_refl _),by rw [cH,hl1],fun n' w hs hp=>?_,fun hg=>absurd k2 (hgk hg)⟩
   unfold Pf at hp
   rw [if_neg k0,if_neg k1] at hp
   have e1:Ed n' s (-1) (Gt mi a):=hs _ _ _ ((cW eO0 eO1).2 (.inl ((cW s0 (by omega)).2 (.inr ⟨rfl,rfl,rfl⟩))))
   have e2:Ed n' (Gt mo a) (-1) t:=hs _ _ _ ((cW eO0 eO1).2 (.inr ⟨rfl,rfl,rfl⟩))
   have:=(Wy.eps e1 hp).app (.one e2)
   simpa using this
 obtain⟨n2,rfl,g2,hl2,c2,x2⟩:=hy
 dsimp only
 have htot2:=g2.tot
 refine Ok.bind (aM (fun i q=>∃n3:Nx,q=(g.Terms,g.Nons,g.Start,g.Rules,o,n3)∧Grw n2 n3 (9*i) (1020+300*k)∧
  (n3.length≤1000→∀r∈g.Rules.take i,RC g.Rules c mi mo s t n3 r)∧(gd a→∀S,Cpt n2 S→LC g.Rules c.Kind c.Nons (Gt mi) s t S→∃S',Agr n2.length S S'∧Cpt n3 S'))
  (Q:=fun q=>∃n3:Nx,q=(g.Terms,g.Nons,g.Start,g.Rules,o,n3)∧Grw n2 n3 (9*g.Rules.length) (1020+300*k)∧
    (n3.length≤1000→∀r∈g.Rules,RC g.Rules c mi mo s t n3 r)∧(gd a→∀S,Cpt n2 S→LC g.Rules c.Kind c.Nons (Gt mi) s t S→∃S',Agr n2.length S S'∧Cpt n3 S'))
  ⟨n2,rfl,.refl g2.val,fun _=>by simp,fun _ S hS _=>⟨S,.refl,hS⟩⟩ (fun i r q hq hI=>?_) fun q hI=>?_) fun q hI=>?_
 ·obtain⟨n3,rfl,g3,c3,x3⟩:=hI
  obtain⟨hi,hre⟩:=List.getElem?_eq_some_iff.1 hq
  have hlen:=g3.len;have hlim:=g3.lim;have htt:=g3.tot
  have hrule:=rule_ok (nx:=nx) (n:=n3) (nz:=n1) hk hv ho hP a0 a1 hrk (by omega) (mi:=mi) (mo:=mo) (by rw [hc];exact h5) (by rw [hc];intro b hb;have:=h6 b hb;omega) (by rw [hc];intro e b hb;have:=h7 e b hb;omega) s0 (by omega) t0 (by omega) g3.val (by omega) (by omega) (List.mem_of_getElem? hq) i
  rw [hc] at hrule
  refine hrule.mono fun y hy=>?_
  obtain⟨n4,rfl,g4,c4,x4⟩:=hy
  have hlen4:=g4.len
  refine⟨n4,rfl,(g3.trans g4).mono (by omega) (Nat.le_refl _),fun hle r' hr'=>?_,fun hg S hS hLC=>?_⟩
  ·rw [List.take_add_one,hq,Option.toList_some] at hr'
   rcases List.mem_append.1 hr' with hr'|hr'
   ·exact(c3 (by omega) r' hr').mono g4.sub
   ·rw [List.mem_singleton] at hr';subst hr';exact c4 hle
  ·obtain⟨S1,a2,a3⟩:=x3 hg S hS hLC
   obtain⟨S2,b2,b3⟩:=x4 hg S1 a3 (hLC.agr a2 (fun b hb=>by have:=h6 b hb;omega) s0 (by omega) t0 (by omega))
   exact⟨S2,a2.trans b2 hlen,b3⟩
 ·rw [List.take_length] at hI
  exact hI
 ·obtain⟨n3,rfl,g3,c3,x3⟩:=hI
  have hlen:=g3.len;have hlim:=g3.lim;have htt:=g3.tot
  refine .some ⟨n3,rfl,⟨fun x b d e=>g3.sub _ _ _ (g2.sub _ _ _ ((h1 _ _ _).2 e)),by omega,g3.val,by omega,by omega⟩,fun hle w hw=>?_,fun hg S hS h=>?_⟩
  ·have:=(hw.lgp (P:=Pf c.Kind (Gt mi) (Gt mo) s t n3) fun r hr hl u hu=>c3 hle r hr hl n3 .rfl u hu).one_cmp hma
   exact c2 n3 w g3.sub this
  ·obtain⟨S1,a2,a3,a4⟩:=h8 S (Xb g.Rules c.Kind s t S) hS
   have es:S1 s=S s:=a2 s s0 s1
   have et:S1 t=S t:=a2 t t0 t1
   have hLC:LC g.Rules c.Kind c.Nons (Gt mi) s t S1:=fun b hb v=>by
    rw [a4 b hb]
    unfold Xb
    rw [es,et]
   obtain⟨S2,b1,b2⟩:=x3 hg S1 (x2 hg S1 a3 hLC (by rw [es,et];exact h)) hLC
   exact⟨S2,a2.trans b1 (by omega),b2⟩
theorem both_ok (hv:Valid g)(ho:OfV g o rk gd):∀(k φ:Nat),k≤10→2*k+2≤φ→AddOk g o rk gd k φ:=by
 intro k
 induction k with
 | zero=>
   intro φ hk hφ
   obtain⟨φ,rfl⟩:∃z,φ=z+2:=⟨φ-2,by omega⟩
   exact jt hk hv ho (jg (by omega) fun k' e=>by omega)
 | succ k ih=>
   intro φ hk hφ
   obtain⟨φ,rfl⟩:∃z,φ=z+2:=⟨φ-2,by omega⟩
   refine jt hk hv ho (jg (by omega) fun k' e=>?_)
   obtain rfl:k'=k:=by omega
   exact ih φ (by omega) (by omega)
end
end Go.Proofs.Ytmfkjilndpchbaa.Ap
