import Derived.Test.YtmfkjilndpchbaaP
import Derived.Test.YtmfkjilndpchbaaGapprox
import Derived.Test.YtmfkjilndpchbaaGcmp
import Derived.Test.YtmfkjilndpchbaaGdfa
import Derived.Test.YtmfkjilndpchbaaGgram
import Derived.Test.YtmfkjilndpchbaaGlinear
import Derived.Test.YtmfkjilndpchbaaGmathbits
import Derived.Test.YtmfkjilndpchbaaGmini
import Derived.Test.YtmfkjilndpchbaaGparlkeep5
import Derived.Test.YtmfkjilndpchbaaGparlmake
import Derived.Test.YtmfkjilndpchbaaGslices
import Derived.Test.YtmfkjilndpchbaaGteach
namespace Go.Proofs.Ytmfkjilndpchbaa
open Go Go.Ab
set_option maxHeartbeats 1000000
variable {T:FuncId→Option AFunc}{Z V:PH}{H:Hp}
structure Nd.G8 (T:FuncId→Option AFunc):Prop where
 own:Has T I.G8 F.G8
theorem X.G8 (nd:Nd.G8 T){a0:Int}(hs:Sat Z V H []){r:Bool}(e:P.G8 a0=some r):
 G T I.G8 [vi a0] H (fun rv H'=>rv=(.bool r)∧Sat Z V H' []):=by
 unfold P.G8 at e
 refine bB nd.own (af (aa (v:=.bool false) rfl (ae (af (aa (v:=vi a0) rfl (aa (v:=vi a0) rfl (cQ rfl rfl (aa (v:=.bool (decide (a0≠a0))) rfl (ae (aL ?_))))))))))
 obtain rfl:=oJ e
 exact⟨.inr rfl,_,(ar1 rfl),rfl,hs⟩
structure Nd.F1 (T:FuncId→Option AFunc):Prop where
 own:Has T I.F1 F.F1
 G8:Nd.G8 T
theorem X.F1 (nd:Nd.F1 T){a0:Int}{a1:Int}(hs:Sat Z V H []){r:Int}(e:P.F1 a0 a1=some r):
 G T I.F1 [vi a0,vi a1] H (fun rv H'=>rv=vi r∧Sat Z V H' []):=by
 unfold P.F1 at e
 refine bB nd.own (af (aa (v:=vi 0) rfl (ae (af (aa (v:=vi a0) rfl ?_)))))
 obtain⟨x1,q1,e⟩:=oB e
 obtain⟨Z1,V1,W1,g1,u1,c1,c2,-,c4,c3⟩:=Sat.call (l1:=[]) hs
 refine au (mc rfl m0) (X.G8 nd.G8 c1 q1) fun _ H1 i1=>?_
 obtain⟨rfl,s1⟩:=i1
 have s2:=c3 _ _ s1
 refine aa (v:=.bool x1) rfl (ae (af (aa (v:=vi a1) rfl ?_)))
 obtain⟨x2,q2,e⟩:=oB e
 obtain⟨Z2,V2,W2,g2,u2,c5,c6,-,c8,c7⟩:=Sat.call (l1:=[]) s2
 refine au (mc rfl m0) (X.G8 nd.G8 c5 q2) fun _ H2 i2=>?_
 obtain⟨rfl,s3⟩:=i2
 have s4:=c7 _ _ s3
 refine aa (v:=.bool x2) rfl (ae (ah (af (aa (v:=.bool x1) rfl (ae (bx rfl (fun q3=>?_) (fun q3=>?_)))))))
 ·replace e:=ax q3 e
  refine ah (af (aa (v:=.bool x2) rfl (ae (bx rfl (fun q4=>?_) (fun q4=>?_)))))
  ·replace e:=ax q4 e
   refine af (aa (v:=vi 0) rfl (ae (ap (P:=fun tm=>tm 4=vi 0∧True) ⟨rfl,trivial⟩ ?_)))
   intro _ i3
   obtain⟨h1,-⟩:=i3
   refine aL ?_
   obtain rfl:=oJ e
   exact⟨.inr rfl,_,(ar1 h1),rfl,(s4.weak (g1.trans g2) hs.zv)⟩
  replace e:=aS q4 e
  refine ar (af (aa (v:=vi (-1)) rfl (ae (ap (P:=fun tm=>tm 4=(vi (-1))∧True) ⟨rfl,trivial⟩ ?_))))
  intro _ i4
  obtain⟨h2,-⟩:=i4
  refine aL ?_
  obtain rfl:=oJ e
  exact⟨.inr rfl,_,(ar1 h2),rfl,(s4.weak (g1.trans g2) hs.zv)⟩
 replace e:=aS q3 e
 refine ar (ah (af (aa (v:=.bool x2) rfl (ae (bx rfl (fun q5=>?_) (fun q5=>?_))))))
 ·replace e:=ax q5 e
  refine af (aa (v:=vi 1) rfl (ae (ap (P:=fun tm=>tm 4=vi 1∧True) ⟨rfl,trivial⟩ ?_)))
  intro _ i5
  obtain⟨h3,-⟩:=i5
  refine aL ?_
  obtain rfl:=oJ e
  exact⟨.inr rfl,_,(ar1 h3),rfl,(s4.weak (g1.trans g2) hs.zv)⟩
 replace e:=aS q5 e
 refine ar (ah (af (aa (v:=vi a0) rfl (aa (v:=vi a1) rfl (ao rfl rfl (ae (ap (P:=fun tm=>tm 0=vi a0∧tm 1=vi a1∧tm 16=(.bool (decide (a0<a1)))∧True) ⟨rfl,rfl,rfl,trivial⟩ ?_)))))))
 intro _ i6
 obtain⟨h4,h5,h6,-⟩:=i6
 refine aI h6 (fun q6=>?_) (fun q6=>?_)
 ·replace e:=ax q6 e
  refine af (aa (v:=vi (-1)) rfl (ae (aL ?_)))
  obtain rfl:=oJ e
  exact⟨.inr rfl,_,(ar1 rfl),rfl,(s4.weak (g1.trans g2) hs.zv)⟩
 replace e:=bb q6 e
 refine ar (ah (af (aa h4 (aa h5 (cC rfl rfl (ae (aI rfl (fun q7=>?_) (fun q7=>?_))))))))
 ·replace e:=ax q7 e
  refine af (aa (v:=vi 1) rfl (ae (aL ?_)))
  obtain rfl:=oJ e
  exact⟨.inr rfl,_,(ar1 rfl),rfl,(s4.weak (g1.trans g2) hs.zv)⟩
 replace e:=bb q7 e
 refine ar (af (aa (v:=vi 0) rfl (ae (aL ?_))))
 obtain rfl:=oJ e
 exact⟨.inr rfl,_,(ar1 rfl),rfl,(s4.weak (g1.trans g2) hs.zv)⟩
structure Nd.J9 (T:FuncId→Option AFunc):Prop where
 own:Has T I.J9 F.J9
 F1:Nd.F1 T
theorem X.J9 (nd:Nd.J9 T){a0:Ty.F2}{a1:Ty.F2}(hs:Sat Z V H []){r:Int}(e:P.J9 a0 a1=some r):
 G T I.J9 [(.agg #[(.bool a0.Term),vi a0.N]),(.agg #[(.bool a1.Term),vi a1.N])] H (fun rv H'=>rv=vi r∧Sat Z V H' []):=by
 unfold P.J9 at e
 refine bB nd.own (af (cx hs rfl rfl fun b1 H1 s1=>cx s1 rfl rfl fun b2 H2 s2=>aa (v:=vi 0) rfl (ae (ah (ay (af (am rfl (ak 1 s2 rfl rfl rfl rfl (aa (v:=.bool a0.Term) rfl (cv 4 (I:=fun tm H=>tm 12= .bool (a0.Term&&(!a1.Term))∧(∃(Z1 V1:PH),Gw Z V Z1 V1∧Sat Z1 V1 H [pts b1 (.rw 0 [(.bool a0.Term),vi a0.N]),pts b2 (.rw 0 [(.bool a1.Term),vi a1.N])]∧tm 2=(pV b1 0)∧tm 3=(pV b2 0))) (fun k1=>?_) ?_))))))))))
 ·rcases Bool.eq_false_or_eq_true a0.Term with q1|q1
  ·refine aC rfl q1 (am rfl (aC rfl q1 (ak 0 s2 rfl rfl rfl rfl (aC rfl q1 (cy rfl (aY (a:=.bool (!a1.Term)) rfl q1 rfl ?_))))))
   exact k1 _ _ ⟨gf rfl (by first|(rw [q1];first|done|rfl)|simp [q1]),_,_,Gw.refl _ _,(s2.pick [1,0] rfl),rfl,rfl⟩
  refine aE rfl q1 (aE rfl q1 (aE rfl q1 (aX (b:=.bool false) rfl q1 rfl ?_)))
  exact k1 _ _ ⟨gf rfl (by first|(rw [q1];first|done|rfl)|simp [q1]),_,_,Gw.refl _ _,(s2.pick [1,0] rfl),rfl,rfl⟩
 intro _ H3 i1
 obtain⟨h3,Z1,V1,g1,s3,h1,h2⟩:=i1
 refine aa h3 (ae (bx rfl (fun q2=>?_) (fun q2=>?_)))
 ·replace e:=ax q2 e
  refine af (aa (v:=vi (-1)) rfl (ae (aL ?_)))
  obtain rfl:=oJ e
  exact⟨.inr rfl,_,(ar1 rfl),rfl,((s3.pick [] rfl).weak g1 hs.zv)⟩
 replace e:=aS q2 e
 refine af (am h1 (ak 0 s3 rfl rfl rfl rfl (cy rfl (aa (v:=.bool (!a0.Term)) rfl (cv 3 (I:=fun tm H=>tm 20= .bool ((!a0.Term)&&a1.Term)∧(∃(Z2 V2:PH),Gw Z1 V1 Z2 V2∧Sat Z2 V2 H [pts b1 (.rw 0 [(.bool a0.Term),vi a0.N]),pts b2 (.rw 0 [(.bool a1.Term),vi a1.N])]∧tm 2=(pV b1 0)∧tm 3=(pV b2 0))) (fun k2=>?_) ?_)))))
 ·rcases Bool.eq_false_or_eq_true (!a0.Term) with q3|q3
  ·refine aC rfl q3 (am h2 (aC rfl q3 (ak 1 s3 rfl rfl rfl rfl (aY (a:=.bool a1.Term) rfl q3 rfl ?_))))
   exact k2 _ _ ⟨gf rfl (by first|(rw [q3];first|done|rfl)|simp [q3]),_,_,Gw.refl _ _,s3,h1,h2⟩
  refine aE rfl q3 (aE rfl q3 (aX (b:=.bool false) rfl q3 rfl ?_))
  exact k2 _ _ ⟨gf rfl (by first|(rw [q3];first|done|rfl)|simp [q3]),_,_,Gw.refl _ _,s3,h1,h2⟩
 intro _ H4 i2
 obtain⟨h6,Z2,V2,g2,s4,h4,h5⟩:=i2
 refine aa h6 (ae (bx rfl (fun q4=>?_) (fun q4=>?_)))
 ·replace e:=ax q4 e
  refine af (aa (v:=vi 1) rfl (ae (aL ?_)))
  obtain rfl:=oJ e
  exact⟨.inr rfl,_,(ar1 rfl),rfl,((s4.pick [] rfl).weak (g1.trans g2) hs.zv)⟩
 replace e:=aS q4 e
 refine ar (aF (af (am h4 (ak 0 s4 rfl rfl rfl rfl (am h5 (ak 1 s4 rfl rfl rfl rfl ?_))))))
 obtain⟨x1,q5,e⟩:=oB e
 obtain⟨Z3,V3,W1,g3,u1,c1,c2,-,c4,c3⟩:=Sat.call (l1:=[]) s4
 refine au (mc rfl (mc rfl m0)) (X.F1 nd.F1 c1 q5) fun _ H5 i3=>?_
 obtain⟨rfl,s5⟩:=i3
 have s6:=c3 _ _ s5
 refine aa (v:=vi x1) rfl (ae (aL ?_))
 obtain rfl:=oJ e
 exact⟨.inr rfl,_,(ar1 rfl),rfl,((s6.pick [] rfl).weak (g1.trans (g2.trans g3)) hs.zv)⟩
structure Nd.D6 (T:FuncId→Option AFunc):Prop where
 own:Has T I.B3 F.B3
 J9:Nd.J9 T
theorem X.D6 (nd:Nd.D6 T){v1:Value}{v2:Value}{a0:(List Ty.F2)}{a1:(List Ty.F2)}(hs:Sat Z V H [])(hp1:RdS Sh.F2 V v1 a0)(hp2:RdS Sh.F2 V v2 a1){r:Int}(e:P.D6 a0 a1=some r):
 G T I.B3 [v1,v2,(.func (.func I.J9) #[] #[])] H (fun rv H'=>rv=vi r∧Sat Z V H' []):=by
 unfold P.D6 at e
 refine bB nd.own (af (aa (v:=vi 0) rfl (ae (ah (af (aa (v:=v1) rfl (aD rfl (hp1).len (aa (v:=vi 0) rfl (ae ?_)))))))))
 obtain⟨y1,q3,e⟩:=oB e
 refine bf (I:=fun tm H=>∃(s3:Unit),y1= .out s3∧(∃(Z2 V2:PH),Gw Z V Z2 V2∧Sat Z2 V2 H []∧tm 0=v1∧tm 1=v2∧tm 2=(.func (.func I.J9) #[] #[])∧tm 11=v1∧tm 12=(vN a0))) (fun k4=>?_) ?_
 ·refine ay (cY (xs:=a0) (fun(i1:Nat) (s1:Unit) tm H=>tm 13=vi i1∧∃(Z1 V1:PH),Gw Z V Z1 V1∧Sat Z1 V1 H []∧tm 0=v1∧tm 1=v2∧tm 2=(.func (.func I.J9) #[] #[])∧tm 11=v1∧tm 12=(vN a0)) (fun i1 x1 s1 y2 tm H2 q1 q2 j1 e1 k1 k2 k3=>?_) (fun s1 tm H1 jf jd=>?_) q3 ⟨rfl,_,_,Gw.refl _ _,hs,rfl,rfl,rfl,rfl,rfl⟩)
  ·obtain⟨hti0,Z1,V1,g1,s2,h1,h2,h3,h4,h5⟩:=j1
   unfold P.D6.b0 at e1
   refine af (ao hti0 h5 (ae (ah (be rfl (Int.ofNat_lt.2 q2) (ar (ah (ay (af (aa hti0 (aJ (v:=v1) h4 hti0 (hp1.mono g1.v) rfl (Pu.ix_nat.trans q1) fun p1 q4=>cO rfl (hp1.mono g1.v) s2.v rfl q4 (Pu.ix_nat.trans q1) fun c1 h11=>?_))))))))))
   obtain rfl:=h11
   refine bv s2 fun b1 H4 s5=>aa (v:=vJ i1) rfl (aP (us':=[(.bool x1.Term),vi x1.N]) 0 s5 rfl rfl rfl rfl rfl rfl rfl fun H5 s6=>ae (ah (af (aa (v:=vJ i1) rfl (aa h2 (aD rfl ((hp2.mono g1.v)).len (cd rfl rfl (ae (ap (P:=fun tm=>tm 0=v1∧tm 1=v2∧tm 2=(.func (.func I.J9) #[] #[])∧tm 7=(vJ i1)∧tm 8=(pV b1 0)∧tm 11=v1∧tm 12=(vN a0)∧tm 13=(vJ i1)∧tm 21=(.bool (decide ((a1.length:Int)≤(i1:Int))))∧True) ⟨h1,h2,h3,rfl,rfl,h4,h5,hti0,rfl,trivial⟩ ?_)))))))))
   intro _ i2
   obtain⟨h12,h13,h14,h15,h16,h17,h18,h19,h20,-⟩:=i2
   refine aI h20 (fun q5=>?_) (fun q5=>?_)
   ·replace e1:=ax q5 e1
    refine af (aa (v:=vi 1) rfl (ae (aL ?_)))
    have e2:=ci (k3 _ (sJ e1)) e
    obtain rfl:=oJ e2
    exact⟨.inr rfl,_,(ar1 rfl),rfl,((s6.pick [] rfl).weak g1 hs.zv)⟩
   replace e1:=bb q5 e1
   refine ar (af (aa h13 (aa h15 ?_)))
   obtain⟨x2,q6,e1⟩:=oB e1
   refine aJ (v:=v2) rfl rfl (hp2.mono g1.v) rfl q6 fun p2 q7=>cO rfl (hp2.mono g1.v) s6.v rfl q7 q6 fun c2 h21=>?_
   obtain rfl:=h21
   refine bv s6 fun b2 H6 s7=>aP (us':=[(.bool x2.Term),vi x2.N]) 0 s7 rfl rfl rfl rfl rfl rfl rfl fun H7 s8=>ae (af (aa h14 (ak 1 s8 rfl h16 rfl rfl (ak 0 s8 rfl rfl rfl rfl ?_))))
   obtain⟨x3,q8,e1⟩:=oB e1
   obtain⟨Z3,V3,W1,g3,u1,c3,c4,-,c6,c5⟩:=Sat.call (l1:=[]) s8
   refine je rfl (mc rfl (mc rfl m0)) (X.J9 nd.J9 c3 q8) fun _ H8 i3=>?_
   obtain⟨rfl,s9⟩:=i3
   have s10:=c5 _ _ s9
   refine aa (v:=vi x3) rfl (ae (ap (P:=fun tm=>tm 0=v1∧tm 1=v2∧tm 2=(.func (.func I.J9) #[] #[])∧tm 10=vi x3∧tm 11=v1∧tm 12=(vN a0)∧tm 13=(vJ i1)∧True) ⟨h12,h13,h14,rfl,h17,h18,h19,trivial⟩ ?_))
   intro _ i4
   obtain⟨h22,h23,h24,h25,h26,h27,h28,-⟩:=i4
   refine af (aa h25 (cQ rfl rfl (ae (aI rfl (fun q9=>?_) (fun q9=>?_)))))
   ·replace e1:=ax q9 e1
    refine af (aa h25 (aa (v:=vi x3) rfl (ae (aL ?_))))
    have e3:=ci (k3 _ (sJ e1)) e
    obtain rfl:=oJ e3
    exact⟨.inr rfl,_,(ar1 rfl),rfl,((s10.pick [] rfl).weak (g1.trans g3) hs.zv)⟩
   replace e1:=bb q9 e1
   refine ar (aF (bq (az h28 rfl (aa (v:=vi (Pu.W ((i1:Int)+1))) rfl (ae ?_)))))
   exact k1 _ _ _ (sJ e1) ⟨(iv rfl (bE q2 (hp1).bd)),_,_,(g1.trans g3),(s10.pick [] rfl),h22,h23,h24,h26,h27⟩
  ·obtain⟨hte0,Z4,V4,g4,s11,h29,h30,h31,h32,h33⟩:=jd
   refine af (ao hte0 h33 (ae (ah (bc rfl (Int.lt_irrefl _) (aR (aU (aU (bT ?_))))))))
   exact k4 _ _ ⟨_,jf,_,_,g4,s11,h29,h30,h31,h32,h33⟩
 intro _ H3 i5
 obtain⟨s3,f1,Z2,V2,g2,s4,h6,h7,h8,h9,h10⟩:=i5
 replace e:=bD f1 e
 refine ah (af (aa h6 (aD rfl ((hp1.mono g2.v)).len (aa h7 (aD rfl ((hp2.mono g2.v)).len (ao rfl rfl (ae (aI rfl (fun q10=>?_) (fun q10=>?_)))))))))
 ·replace e:=ax q10 e
  refine af (aa (v:=vi (-1)) rfl (ae (aL ?_)))
  obtain rfl:=oJ e
  exact⟨.inr rfl,_,(ar1 rfl),rfl,(s4.weak g2 hs.zv)⟩
 replace e:=bb q10 e
 refine ar (af (aa (v:=vi 0) rfl (ae (aL ?_))))
 obtain rfl:=oJ e
 exact⟨.inr rfl,_,(ar1 rfl),rfl,(s4.weak g2 hs.zv)⟩
structure Nd.J8 (T:FuncId→Option AFunc):Prop where
 own:Has T I.J8 F.J8
 F1:Nd.F1 T
 D6:Nd.D6 T
theorem X.J8 (nd:Nd.J8 T){v1:Value}{v2:Value}{a0:Ty.E2}{a1:Ty.E2}(hs:Sat Z V H [])(hp1:RdS Sh.F2 V v1 a0.Right)(hp2:RdS Sh.F2 V v2 a1.Right){r:Int}(e:P.J8 a0 a1=some r):
 G T I.J8 [(.agg #[vi a0.Left,v1]),(.agg #[vi a1.Left,v2])] H (fun rv H'=>rv=vi r∧Sat Z V H' []):=by
 unfold P.J8 at e
 refine bB nd.own (af ?_)
 obtain⟨d1,rfl⟩:=(hp1).val
 refine cx hs rfl rfl fun b1 H1 s1=>?_
 obtain⟨d2,rfl⟩:=(hp2).val
 refine cx s1 rfl rfl fun b2 H2 s2=>aa (v:=vi 0) rfl (ae (ah (af (am rfl (ak 1 s2 rfl rfl rfl rfl (am rfl (ak 0 s2 rfl rfl rfl rfl ?_)))))))
 obtain⟨x1,q1,e⟩:=oB e
 obtain⟨Z1,V1,W1,g1,u1,c1,c2,-,c4,c3⟩:=Sat.call (l1:=[]) s2
 refine au (mc rfl (mc rfl m0)) (X.F1 nd.F1 c1 q1) fun _ H3 i1=>?_
 obtain⟨rfl,s3⟩:=i1
 have s4:=c3 _ _ s3
 refine aa (v:=vi x1) rfl (ae (af (aa (v:=vi x1) rfl (cQ rfl rfl (ae (ap (P:=fun tm=>tm 2=(pV b1 0)∧tm 3=(pV b2 0)∧tm 5=vi x1∧tm 12=(.bool (decide (x1≠0)))∧True) ⟨rfl,rfl,rfl,rfl,trivial⟩ ?_))))))
 intro _ i2
 obtain⟨h1,h2,h3,h4,-⟩:=i2
 refine aI h4 (fun q2=>?_) (fun q2=>?_)
 ·replace e:=ax q2 e
  refine af (aa h3 (aa (v:=vi x1) rfl (ae (aL ?_))))
  obtain rfl:=oJ e
  exact⟨.inr rfl,_,(ar1 rfl),rfl,((s4.pick [] rfl).weak g1 hs.zv)⟩
 replace e:=bb q2 e
 refine ar (af (am h1 (ak 1 s4 rfl rfl rfl rfl (am h2 (ak 0 s4 rfl rfl rfl rfl ?_)))))
 obtain⟨x2,q3,e⟩:=oB e
 obtain⟨Z2,V2,W2,g2,u2,c5,c6,-,c8,c7⟩:=Sat.call (l1:=[]) s4
 refine au (mc rfl (mc rfl (mc rfl m0))) (X.D6 nd.D6 c5 (hp1.mono ((g1.trans g2).v.trans u2)) (hp2.mono ((g1.trans g2).v.trans u2)) q3) fun _ H4 i3=>?_
 obtain⟨rfl,s5⟩:=i3
 have s6:=c7 _ _ s5
 refine aa (v:=vi x2) rfl (ae (aL ?_))
 obtain rfl:=oJ e
 exact⟨.inr rfl,_,(ar1 rfl),rfl,((s6.pick [] rfl).weak (g1.trans g2) hs.zv)⟩
structure Nd.E1 (T:FuncId→Option AFunc):Prop where
 own:Has T I.E1 F.E1
 J8:Nd.J8 T
theorem X.E1 (nd:Nd.E1 T){v1:Value}{a0:Ty.E8}(hs:Sat Z V H [])(hp1:RdS Sh.E2 V v1 a0.Rules){r:Int}(e:P.E1 a0=some r):
 G T I.E1 [(.agg #[vi a0.Terms,vi a0.Nons,vi a0.Start,v1])] H (fun rv H'=>rv=vi r∧Sat Z V H' []):=by
 unfold P.E1 at e
 refine bB nd.own (af ?_)
 obtain⟨d1,rfl⟩:=(hp1).val
 refine cx hs rfl rfl fun b1 H1 s1=>aa (v:=vi 0) rfl (ae (ah (af (am rfl (ak 0 s1 rfl rfl rfl rfl (ao rfl rfl (aa (v:=.bool (decide (a0.Terms<1))) rfl (cv 4 (I:=fun tm H=>tm 16= .bool ((decide (a0.Terms<1)) ||(decide (8<a0.Terms)))∧(∃(Z1 V1:PH),Gw Z V Z1 V1∧Sat Z1 V1 H [pts b1 (.rw 0 [vi a0.Terms,vi a0.Nons,vi a0.Start,(vS d1 a0.Rules)])]∧tm 1=(pV b1 0))) (fun k1=>?_) ?_))))))))
 ·rcases Bool.eq_false_or_eq_true (decide (a0.Terms<1)) with q1|q1
  ·refine aE rfl q1 (aE rfl q1 (aE rfl q1 (aY (a:=.bool true) rfl q1 rfl ?_)))
   exact k1 _ _ ⟨gf rfl (by first|(rw [q1];first|done|rfl)|simp [q1]),_,_,Gw.refl _ _,s1,rfl⟩
  refine aC rfl q1 (am rfl (aC rfl q1 (ak 0 s1 rfl rfl rfl rfl (aC rfl q1 (cC rfl rfl (aX (b:=.bool (decide (8<a0.Terms))) rfl q1 rfl ?_))))))
  exact k1 _ _ ⟨gf rfl (by first|(rw [q1];first|done|rfl)|simp [q1]),_,_,Gw.refl _ _,s1,rfl⟩
 intro _ H2 i1
 obtain⟨h2,Z1,V1,g1,s2,h1⟩:=i1
 refine aa h2 (cv 4 (I:=fun tm H=>tm 21= .bool (((decide (a0.Terms<1)) ||(decide (8<a0.Terms))) ||(decide (a0.Nons<1)))∧(∃(Z2 V2:PH),Gw Z1 V1 Z2 V2∧Sat Z2 V2 H [pts b1 (.rw 0 [vi a0.Terms,vi a0.Nons,vi a0.Start,(vS d1 a0.Rules)])]∧tm 1=(pV b1 0))) (fun k2=>?_) ?_)
 ·rcases Bool.eq_false_or_eq_true ((decide (a0.Terms<1)) ||(decide (8<a0.Terms))) with q2|q2
  ·refine aE rfl q2 (aE rfl q2 (aE rfl q2 (aY (a:=.bool true) rfl q2 rfl ?_)))
   exact k2 _ _ ⟨gf rfl (by first|(rw [q2];first|done|rfl)|simp [q2]),_,_,Gw.refl _ _,s2,h1⟩
  refine aC rfl q2 (am h1 (aC rfl q2 (ak 0 s2 rfl rfl rfl rfl (aC rfl q2 (ao rfl rfl (aX (b:=.bool (decide (a0.Nons<1))) rfl q2 rfl ?_))))))
  exact k2 _ _ ⟨gf rfl (by first|(rw [q2];first|done|rfl)|simp [q2]),_,_,Gw.refl _ _,s2,h1⟩
 intro _ H3 i2
 obtain⟨h4,Z2,V2,g2,s3,h3⟩:=i2
 refine aa h4 (cv 4 (I:=fun tm H=>tm 26= .bool ((((decide (a0.Terms<1)) ||(decide (8<a0.Terms))) ||(decide (a0.Nons<1))) ||(decide (10<a0.Nons)))∧(∃(Z3 V3:PH),Gw Z2 V2 Z3 V3∧Sat Z3 V3 H [pts b1 (.rw 0 [vi a0.Terms,vi a0.Nons,vi a0.Start,(vS d1 a0.Rules)])]∧tm 1=(pV b1 0))) (fun k3=>?_) ?_)
 ·rcases Bool.eq_false_or_eq_true (((decide (a0.Terms<1)) ||(decide (8<a0.Terms))) ||(decide (a0.Nons<1))) with q3|q3
  ·refine aE rfl q3 (aE rfl q3 (aE rfl q3 (aY (a:=.bool true) rfl q3 rfl ?_)))
   exact k3 _ _ ⟨gf rfl (by first|(rw [q3];first|done|rfl)|simp [q3]),_,_,Gw.refl _ _,s3,h3⟩
  refine aC rfl q3 (am h3 (aC rfl q3 (ak 0 s3 rfl rfl rfl rfl (aC rfl q3 (cC rfl rfl (aX (b:=.bool (decide (10<a0.Nons))) rfl q3 rfl ?_))))))
  exact k3 _ _ ⟨gf rfl (by first|(rw [q3];first|done|rfl)|simp [q3]),_,_,Gw.refl _ _,s3,h3⟩
 intro _ H4 i3
 obtain⟨h6,Z3,V3,g3,s4,h5⟩:=i3
 refine aa h6 (cv 4 (I:=fun tm H=>tm 31= .bool (((((decide (a0.Terms<1)) ||(decide (8<a0.Terms))) ||(decide (a0.Nons<1))) ||(decide (10<a0.Nons))) ||(decide (a0.Start<0)))∧(∃(Z4 V4:PH),Gw Z3 V3 Z4 V4∧Sat Z4 V4 H [pts b1 (.rw 0 [vi a0.Terms,vi a0.Nons,vi a0.Start,(vS d1 a0.Rules)])]∧tm 1=(pV b1 0))) (fun k4=>?_) ?_)
 ·rcases Bool.eq_false_or_eq_true ((((decide (a0.Terms<1)) ||(decide (8<a0.Terms))) ||(decide (a0.Nons<1))) ||(decide (10<a0.Nons))) with q4|q4
  ·refine aE rfl q4 (aE rfl q4 (aE rfl q4 (aY (a:=.bool true) rfl q4 rfl ?_)))
   exact k4 _ _ ⟨gf rfl (by first|(rw [q4];first|done|rfl)|simp [q4]),_,_,Gw.refl _ _,s4,h5⟩
  refine aC rfl q4 (am h5 (aC rfl q4 (ak 0 s4 rfl rfl rfl rfl (aC rfl q4 (ao rfl rfl (aX (b:=.bool (decide (a0.Start<0))) rfl q4 rfl ?_))))))
  exact k4 _ _ ⟨gf rfl (by first|(rw [q4];first|done|rfl)|simp [q4]),_,_,Gw.refl _ _,s4,h5⟩
 intro _ H5 i4
 obtain⟨h8,Z4,V4,g4,s5,h7⟩:=i4
 refine aa h8 (cv 6 (I:=fun tm H=>tm 38= .bool ((((((decide (a0.Terms<1)) ||(decide (8<a0.Terms))) ||(decide (a0.Nons<1))) ||(decide (10<a0.Nons))) ||(decide (a0.Start<0))) ||(decide (a0.Nons≤a0.Start)))∧(∃(Z5 V5:PH),Gw Z4 V4 Z5 V5∧Sat Z5 V5 H [pts b1 (.rw 0 [vi a0.Terms,vi a0.Nons,vi a0.Start,(vS d1 a0.Rules)])]∧tm 1=(pV b1 0))) (fun k5=>?_) ?_)
 ·rcases Bool.eq_false_or_eq_true (((((decide (a0.Terms<1)) ||(decide (8<a0.Terms))) ||(decide (a0.Nons<1))) ||(decide (10<a0.Nons))) ||(decide (a0.Start<0))) with q5|q5
  ·refine aE rfl q5 (aE rfl q5 (aE rfl q5 (aE rfl q5 (aE rfl q5 (aY (a:=.bool true) rfl q5 rfl ?_)))))
   exact k5 _ _ ⟨gf rfl (by first|(rw [q5];first|done|rfl)|simp [q5]),_,_,Gw.refl _ _,s5,h7⟩
  refine aC rfl q5 (am h7 (aC rfl q5 (ak 0 s5 rfl rfl rfl rfl (aC rfl q5 (am h7 (aC rfl q5 (ak 0 s5 rfl rfl rfl rfl (aC rfl q5 (cd rfl rfl (aX (b:=.bool (decide (a0.Nons≤a0.Start))) rfl q5 rfl ?_))))))))))
  exact k5 _ _ ⟨gf rfl (by first|(rw [q5];first|done|rfl)|simp [q5]),_,_,Gw.refl _ _,s5,h7⟩
 intro _ H6 i5
 obtain⟨h10,Z5,V5,g5,s6,h9⟩:=i5
 refine ae (bx h10 (fun q6=>?_) (fun q6=>?_))
 ·replace e:=ax q6 e
  refine af (aa (v:=vi 1) rfl (ae (aL ?_)))
  obtain rfl:=oJ e
  exact⟨.inr rfl,_,(ar1 rfl),rfl,((s6.pick [] rfl).weak (g1.trans (g2.trans (g3.trans (g4.trans g5)))) hs.zv)⟩
 replace e:=aS q6 e
 refine ar (ah (af (am h9 (ak 0 s6 rfl rfl rfl rfl (aD rfl ((hp1.mono (g1.trans (g2.trans (g3.trans (g4.trans g5)))).v)).len (cC rfl rfl (ae (aI rfl (fun q7=>?_) (fun q7=>?_)))))))))
 ·replace e:=ax q7 e
  refine af (aa (v:=vi 2) rfl (ae (aL ?_)))
  obtain rfl:=oJ e
  exact⟨.inr rfl,_,(ar1 rfl),rfl,((s6.pick [] rfl).weak (g1.trans (g2.trans (g3.trans (g4.trans g5)))) hs.zv)⟩
 replace e:=bb q7 e
 refine ar (ah (af (am h9 (ak 0 s6 rfl rfl rfl rfl (aD rfl ((hp1.mono (g1.trans (g2.trans (g3.trans (g4.trans g5)))).v)).len (aa (v:=vi 0) rfl (ae ?_)))))))
 obtain⟨y1,q10,e⟩:=oB e
 refine bf (I:=fun tm H=>∃(s9:Unit),y1= .out s9∧(∃(Z7 V7:PH),Gw Z5 V5 Z7 V7∧Sat Z7 V7 H [pts b1 (.rw 0 [vi a0.Terms,vi a0.Nons,vi a0.Start,(vS d1 a0.Rules)])]∧tm 1=(pV b1 0)∧tm 44=(vS d1 a0.Rules)∧tm 45=(vN a0.Rules))) (fun k9=>?_) ?_
 ·refine ay (cY (xs:=a0.Rules) (fun(i6:Nat) (s7:Unit) tm H=>tm 46=vi i6∧∃(Z6 V6:PH),Gw Z5 V5 Z6 V6∧Sat Z6 V6 H [pts b1 (.rw 0 [vi a0.Terms,vi a0.Nons,vi a0.Start,(vS d1 a0.Rules)])]∧tm 1=(pV b1 0)∧tm 44=(vS d1 a0.Rules)∧tm 45=(vN a0.Rules)) (fun i6 x1 s7 y2 tm H8 q8 q9 j1 e1 k6 k7 k8=>?_) (fun s7 tm H7 jf jd=>?_) q10 ⟨rfl,_,_,Gw.refl _ _,s6,h9,rfl,rfl⟩)
  ·obtain⟨hti0,Z6,V6,g6,s8,h11,h12,h13⟩:=j1
   unfold P.E1.b0 at e1
   refine af (ao hti0 h13 (ae (ah (be rfl (Int.ofNat_lt.2 q9) (ar (ah (ay (af (aa hti0 (aJ (v:=vS d1 a0.Rules) h12 hti0 (hp1.mono (g1.trans (g2.trans (g3.trans (g4.trans (g5.trans g6))))).v) rfl (Pu.ix_nat.trans q8) fun p1 q11=>cO rfl (hp1.mono (g1.trans (g2.trans (g3.trans (g4.trans (g5.trans g6))))).v) s8.v rfl q11 (Pu.ix_nat.trans q8) fun c1 h17=>?_))))))))))
   obtain⟨w1,rfl,h18⟩:=Sh.K7 h17
   refine bv s8 fun b2 H10 s11=>aa (v:=vJ i6) rfl ?_
   obtain⟨d2,rfl⟩:=(h18).val
   refine aP (us':=[vi x1.Left,(vS d2 x1.Right)]) 0 s11 rfl rfl rfl rfl rfl rfl rfl fun H11 s12=>ae (ah (af (am rfl (ak 0 s12 rfl rfl rfl rfl (ao rfl rfl (aa (v:=.bool (decide (x1.Left<0))) rfl (cv 6 (I:=fun tm H=>tm 60= .bool ((decide (x1.Left<0)) ||(decide (a0.Nons≤x1.Left)))∧(∃(Z8 V8:PH),Gw Z6 V6 Z8 V8∧Sat Z8 V8 H [pts b1 (.rw 0 [vi a0.Terms,vi a0.Nons,vi a0.Start,(vS d1 a0.Rules)]),pts b2 (.rw 0 [vi x1.Left,(vS d2 x1.Right)])]∧tm 1=(pV b1 0)∧tm 3=(vJ i6)∧tm 4=(pV b2 0)∧tm 44=(vS d1 a0.Rules)∧tm 45=(vN a0.Rules)∧tm 46=(vJ i6))) (fun k10=>?_) ?_)))))))
   ·rcases Bool.eq_false_or_eq_true (decide (x1.Left<0)) with q12|q12
    ·refine aE rfl q12 (aE rfl q12 (aE rfl q12 (aE rfl q12 (aE rfl q12 (aY (a:=.bool true) rfl q12 rfl ?_)))))
     exact k10 _ _ ⟨gf rfl (by first|(rw [q12];first|done|rfl)|simp [q12]),_,_,Gw.refl _ _,(s12.pick [1,0] rfl),h11,rfl,rfl,h12,h13,hti0⟩
    refine aC rfl q12 (am rfl (aC rfl q12 (ak 0 s12 rfl rfl rfl rfl (aC rfl q12 (am h11 (aC rfl q12 (ak 1 s12 rfl rfl rfl rfl (aC rfl q12 (cd rfl rfl (aX (b:=.bool (decide (a0.Nons≤x1.Left))) rfl q12 rfl ?_))))))))))
    exact k10 _ _ ⟨gf rfl (by first|(rw [q12];first|done|rfl)|simp [q12]),_,_,Gw.refl _ _,(s12.pick [1,0] rfl),h11,rfl,rfl,h12,h13,hti0⟩
   intro _ H12 i7
   obtain⟨h25,Z8,V8,g8,s13,h19,h20,h21,h22,h23,h24⟩:=i7
   refine ae (bx h25 (fun q13=>?_) (fun q13=>?_))
   ·replace e1:=ax q13 e1
    refine af (aa (v:=vi 3) rfl (ae (aL ?_)))
    have e2:=ci (k8 _ (sJ e1)) e
    obtain rfl:=oJ e2
    exact⟨.inr rfl,_,(ar1 rfl),rfl,((s13.pick [] rfl).weak (g1.trans (g2.trans (g3.trans (g4.trans (g5.trans (g6.trans g8)))))) hs.zv)⟩
   replace e1:=aS q13 e1
   refine ar (ah (af (am h21 (ak 1 s13 rfl rfl rfl rfl (aD rfl ((h18.mono g8.v)).len (cC rfl rfl (ae (aI rfl (fun q14=>?_) (fun q14=>?_)))))))))
   ·replace e1:=ax q14 e1
    refine af (aa (v:=vi 2) rfl (ae (aL ?_)))
    have e3:=ci (k8 _ (sJ e1)) e
    obtain rfl:=oJ e3
    exact⟨.inr rfl,_,(ar1 rfl),rfl,((s13.pick [] rfl).weak (g1.trans (g2.trans (g3.trans (g4.trans (g5.trans (g6.trans g8)))))) hs.zv)⟩
   replace e1:=bb q14 e1
   refine ar (ah (af (am h21 (ak 1 s13 rfl rfl rfl rfl (aD rfl ((h18.mono g8.v)).len (aa (v:=vi 0) rfl (ae ?_)))))))
   obtain⟨y3,q17,e1⟩:=oB e1
   refine bf (I:=fun tm H=>∃(s16:Unit),y3= .out s16∧(∃(Z10 V10:PH),Gw Z8 V8 Z10 V10∧Sat Z10 V10 H [pts b1 (.rw 0 [vi a0.Terms,vi a0.Nons,vi a0.Start,(vS d1 a0.Rules)]),pts b2 (.rw 0 [vi x1.Left,(vS d2 x1.Right)])]∧tm 1=(pV b1 0)∧tm 3=(vJ i6)∧tm 4=(pV b2 0)∧tm 44=(vS d1 a0.Rules)∧tm 45=(vN a0.Rules)∧tm 46=(vJ i6)∧tm 66=(vS d2 x1.Right)∧tm 67=(vN x1.Right))) (fun k14=>?_) ?_
   ·refine ay (cY (xs:=x1.Right) (fun(i8:Nat) (s14:Unit) tm H=>tm 68=vi i8∧∃(Z9 V9:PH),Gw Z8 V8 Z9 V9∧Sat Z9 V9 H [pts b1 (.rw 0 [vi a0.Terms,vi a0.Nons,vi a0.Start,(vS d1 a0.Rules)]),pts b2 (.rw 0 [vi x1.Left,(vS d2 x1.Right)])]∧tm 1=(pV b1 0)∧tm 3=(vJ i6)∧tm 4=(pV b2 0)∧tm 44=(vS d1 a0.Rules)∧tm 45=(vN a0.Rules)∧tm 46=(vJ i6)∧tm 66=(vS d2 x1.Right)∧tm 67=(vN x1.Right)) (fun i8 x2 s14 y4 tm H14 q15 q16 j2 e4 k11 k12 k13=>?_) (fun s14 tm H13 jf jd=>?_) q17 ⟨rfl,_,_,Gw.refl _ _,s13,h19,h20,h21,h22,h23,h24,rfl,rfl⟩)
    ·obtain⟨hti1,Z9,V9,g9,s15,h26,h27,h28,h29,h30,h31,h32,h33⟩:=j2
     unfold P.E1.b1 at e4
     refine af (ao hti1 h33 (ae (ah (be rfl (Int.ofNat_lt.2 q16) (ar (ah (ay (af (aJ (v:=vS d2 x1.Right) h32 hti1 (h18.mono (g8.trans g9).v) rfl (Pu.ix_nat.trans q15) fun p2 q18=>cO rfl (h18.mono (g8.trans g9).v) s15.v rfl q18 (Pu.ix_nat.trans q15) fun c2 h42=>?_)))))))))
     obtain rfl:=h42
     refine bv s15 fun b3 H16 s18=>aP (us':=[(.bool x2.Term),vi x2.N]) 0 s18 rfl rfl rfl rfl rfl rfl rfl fun H17 s19=>ae (af (am rfl (ak 0 s19 rfl rfl rfl rfl (ao rfl rfl (aa (v:=.bool (decide (x2.N<0))) rfl ?_)))))
     obtain⟨y5,e5,e4⟩:=oB e4
     refine cv 10 (I:=fun tm H=>∃(Z11 V11:PH),Gw Z9 V9 Z11 V11∧Sat Z11 V11 H [pts b1 (.rw 0 [vi a0.Terms,vi a0.Nons,vi a0.Start,(vS d1 a0.Rules)]),pts b2 (.rw 0 [vi x1.Left,(vS d2 x1.Right)]),pts b3 (.rw 0 [(.bool x2.Term),vi x2.N])]∧tm 1=(pV b1 0)∧tm 3=(vJ i6)∧tm 4=(pV b2 0)∧tm 6=(pV b3 0)∧tm 44=(vS d1 a0.Rules)∧tm 45=(vN a0.Rules)∧tm 46=(vJ i6)∧tm 66=(vS d2 x1.Right)∧tm 67=(vN x1.Right)∧tm 68=(vJ i8)∧tm 85=(.bool y5)) (fun k15=>?_) ?_
     ·rcases Bool.eq_false_or_eq_true (decide (x2.N<0)) with q19|q19
      ·replace e5:=ax q19 e5
       refine aE rfl q19 (aE rfl q19 (aE rfl q19 (dx rfl (dx rfl (dx rfl (dx rfl (dx rfl (aE rfl q19 (aY (a:=.bool true) rfl q19 rfl ?_)))))))))
       obtain rfl:=oJ e5
       exact k15 _ _ ⟨_,_,Gw.refl _ _,(s19.pick [1,2,0] rfl),h26,h27,h28,rfl,h29,h30,h31,h32,h33,hti1,rfl⟩
      replace e5:=aS q19 e5
      refine aC rfl q19 (am rfl (aC rfl q19 (ak 0 s19 rfl rfl rfl rfl (aC rfl q19 (aa (v:=.bool x2.Term) rfl (cv 6 (I:=fun tm H=>tm 84= .bool (x2.Term&&(decide (a0.Terms≤x2.N)))∧(∃(Z12 V12:PH),Gw Z9 V9 Z12 V12∧Sat Z12 V12 H [pts b1 (.rw 0 [vi a0.Terms,vi a0.Nons,vi a0.Start,(vS d1 a0.Rules)]),pts b2 (.rw 0 [vi x1.Left,(vS d2 x1.Right)]),pts b3 (.rw 0 [(.bool x2.Term),vi x2.N])]∧tm 1=(pV b1 0)∧tm 3=(vJ i6)∧tm 4=(pV b2 0)∧tm 6=(pV b3 0)∧tm 44=(vS d1 a0.Rules)∧tm 45=(vN a0.Rules)∧tm 46=(vJ i6)∧tm 66=(vS d2 x1.Right)∧tm 67=(vN x1.Right)∧tm 68=(vJ i8)∧tm 75=(.bool (decide (x2.N<0)))∧tm 76=(pV b3 0)∧tm 77=(.bool x2.Term)∧tm 78=(.bool x2.Term))) (fun k16=>?_) ?_))))))
      ·rcases Bool.eq_false_or_eq_true x2.Term with q20|q20
       ·refine aC rfl q20 (am rfl (aC rfl q20 (ak 0 s19 rfl rfl rfl rfl (aC rfl q20 (am h26 (aC rfl q20 (ak 1 s19 rfl rfl rfl rfl (aC rfl q20 (cd rfl rfl (aC rfl q19 (aY (a:=.bool (decide (a0.Terms≤x2.N))) rfl q20 rfl ?_)))))))))))
        exact k16 _ _ ⟨gf rfl (by first|(rw [q20];first|done|rfl)|simp [q20]),_,_,Gw.refl _ _,(s19.pick [1,2,0] rfl),h26,h27,h28,rfl,h29,h30,h31,h32,h33,hti1,rfl,rfl,rfl,rfl⟩
       refine aE rfl q20 (aE rfl q20 (aE rfl q20 (aE rfl q20 (aE rfl q20 (aC rfl q19 (aX (b:=.bool false) rfl q20 rfl ?_))))))
       exact k16 _ _ ⟨gf rfl (by first|(rw [q20];first|done|rfl)|simp [q20]),_,_,Gw.refl _ _,(s19.pick [1,2,0] rfl),h26,h27,h28,rfl,h29,h30,h31,h32,h33,hti1,rfl,rfl,rfl,rfl⟩
      intro _ H19 i9
      obtain⟨h68,Z12,V12,g12,s21,h54,h55,h56,h57,h58,h59,h60,h61,h62,h63,h64,h65,h66,h67⟩:=i9
      refine aX (b:=.bool (x2.Term&&(decide (a0.Terms≤x2.N)))) h64 q19 h68 ?_
      obtain rfl:=oJ e5
      exact k15 _ _ ⟨_,_,g12,s21,h54,h55,h56,h57,h58,h59,h60,h61,h62,h63,rfl⟩
     intro _ H18 i10
     obtain⟨Z11,V11,g11,s20,h43,h44,h45,h46,h47,h48,h49,h50,h51,h52,h53⟩:=i10
     refine aa h53 ?_
     obtain⟨y6,e6,e4⟩:=oB e4
     refine cv 11 (I:=fun tm H=>∃(Z13 V13:PH),Gw Z11 V11 Z13 V13∧Sat Z13 V13 H [pts b1 (.rw 0 [vi a0.Terms,vi a0.Nons,vi a0.Start,(vS d1 a0.Rules)]),pts b2 (.rw 0 [vi x1.Left,(vS d2 x1.Right)])]∧tm 1=(pV b1 0)∧tm 3=(vJ i6)∧tm 4=(pV b2 0)∧tm 44=(vS d1 a0.Rules)∧tm 45=(vN a0.Rules)∧tm 46=(vJ i6)∧tm 66=(vS d2 x1.Right)∧tm 67=(vN x1.Right)∧tm 68=(vJ i8)∧tm 97=(.bool y6)) (fun k17=>?_) ?_
     ·rcases Bool.eq_false_or_eq_true y5 with q21|q21
      ·replace e6:=ax q21 e6
       refine aE rfl q21 (aE rfl q21 (aE rfl q21 (aE rfl q21 (dx rfl (dx rfl (dx rfl (dx rfl (dx rfl (aE rfl q21 (aY (a:=.bool true) rfl q21 rfl ?_))))))))))
       obtain rfl:=oJ e6
       exact k17 _ _ ⟨_,_,Gw.refl _ _,(s20.pick [0,1] rfl),h43,h44,h45,h47,h48,h49,h50,h51,h52,rfl⟩
      replace e6:=aS q21 e6
      refine aC rfl q21 (am h46 (aC rfl q21 (ak 2 s20 rfl rfl rfl rfl (aC rfl q21 (cy rfl (aC rfl q21 (aa (v:=.bool (!x2.Term)) rfl (cv 6 (I:=fun tm H=>tm 96= .bool ((!x2.Term)&&(decide (a0.Nons≤x2.N)))∧(∃(Z14 V14:PH),Gw Z11 V11 Z14 V14∧Sat Z14 V14 H [pts b1 (.rw 0 [vi a0.Terms,vi a0.Nons,vi a0.Start,(vS d1 a0.Rules)]),pts b2 (.rw 0 [vi x1.Left,(vS d2 x1.Right)]),pts b3 (.rw 0 [(.bool x2.Term),vi x2.N])]∧tm 1=(pV b1 0)∧tm 3=(vJ i6)∧tm 4=(pV b2 0)∧tm 44=(vS d1 a0.Rules)∧tm 45=(vN a0.Rules)∧tm 46=(vJ i6)∧tm 66=(vS d2 x1.Right)∧tm 67=(vN x1.Right)∧tm 68=(vJ i8)∧tm 86=(.bool y5)∧tm 87=(pV b3 0)∧tm 88=(.bool x2.Term)∧tm 89=(.bool (!x2.Term))∧tm 90=(.bool (!x2.Term)))) (fun k18=>?_) ?_))))))))
      ·rcases Bool.eq_false_or_eq_true (!x2.Term) with q22|q22
       ·refine aC rfl q22 (am h46 (aC rfl q22 (ak 2 s20 rfl rfl rfl rfl (aC rfl q22 (am h43 (aC rfl q22 (ak 0 s20 rfl rfl rfl rfl (aC rfl q22 (cd rfl rfl (aC rfl q21 (aY (a:=.bool (decide (a0.Nons≤x2.N))) rfl q22 rfl ?_)))))))))))
        exact k18 _ _ ⟨gf rfl (by first|(rw [q22];first|done|rfl)|simp [q22]),_,_,Gw.refl _ _,s20,h43,h44,h45,h47,h48,h49,h50,h51,h52,rfl,rfl,rfl,rfl,rfl⟩
       refine aE rfl q22 (aE rfl q22 (aE rfl q22 (aE rfl q22 (aE rfl q22 (aC rfl q21 (aX (b:=.bool false) rfl q22 rfl ?_))))))
       exact k18 _ _ ⟨gf rfl (by first|(rw [q22];first|done|rfl)|simp [q22]),_,_,Gw.refl _ _,s20,h43,h44,h45,h47,h48,h49,h50,h51,h52,rfl,rfl,rfl,rfl,rfl⟩
      intro _ H21 i11
      obtain⟨h93,Z14,V14,g14,s23,h79,h80,h81,h82,h83,h84,h85,h86,h87,h88,h89,h90,h91,h92⟩:=i11
      refine aX (b:=.bool ((!x2.Term)&&(decide (a0.Nons≤x2.N)))) h88 q21 h93 ?_
      obtain rfl:=oJ e6
      exact k17 _ _ ⟨_,_,g14,(s23.pick [0,1] rfl),h79,h80,h81,h82,h83,h84,h85,h86,h87,rfl⟩
     intro _ H20 i12
     obtain⟨Z13,V13,g13,s22,h69,h70,h71,h72,h73,h74,h75,h76,h77,h78⟩:=i12
     refine ae (bx h78 (fun q23=>?_) (fun q23=>?_))
     ·replace e4:=ax q23 e4
      refine af (aa (v:=vi 3) rfl (ae (aL ?_)))
      have e7:=ci (k13 _ (sJ e4)) e1
      have e8:=ci (k8 _ (sJ e7)) e
      obtain rfl:=oJ e8
      exact⟨.inr rfl,_,(ar1 rfl),rfl,((s22.pick [] rfl).weak (g1.trans (g2.trans (g3.trans (g4.trans (g5.trans (g6.trans (g8.trans (g9.trans (g11.trans g13))))))))) hs.zv)⟩
     replace e4:=aS q23 e4
     refine ar (aF (bq (az h77 rfl (aa (v:=vi (Pu.W ((i8:Int)+1))) rfl (ae ?_)))))
     exact k11 _ _ _ (sJ e4) ⟨(iv rfl (bE q16 ((h18.mono g8.v)).bd)),_,_,(g9.trans (g11.trans g13)),s22,h69,h70,h71,h72,h73,h74,h75,h76⟩
    ·obtain⟨hte1,Z15,V15,g15,s24,h94,h95,h96,h97,h98,h99,h100,h101⟩:=jd
     refine af (ao hte1 h101 (ae (ah (bc rfl (Int.lt_irrefl _) (aR (aU (aU (bT ?_))))))))
     exact k14 _ _ ⟨_,jf,_,_,g15,s24,h94,h95,h96,h97,h98,h99,h100,h101⟩
   intro _ H15 i13
   obtain⟨s16,f1,Z10,V10,g10,s17,h34,h35,h36,h37,h38,h39,h40,h41⟩:=i13
   replace e1:=bD f1 e1
   refine af (am h34 (ak 0 s17 rfl rfl rfl rfl (aa h35 ?_)))
   obtain⟨x3,q24,e1⟩:=oB e1
   refine o_slch rfl rfl (hp1.mono (g1.trans (g2.trans (g3.trans (g4.trans (g5.trans (g6.trans (g8.trans g10))))))).v) s17.v rfl q24 fun w2 h102=>aD rfl (h102).len (aa (v:=vi 0) rfl (ae ?_))
   obtain⟨y7,q27,e1⟩:=oB e1
   refine bf (I:=fun tm H=>∃(s27:Unit),y7= .out s27∧(∃(Z17 V17:PH),Gw Z10 V10 Z17 V17∧Sat Z17 V17 H [pts b1 (.rw 0 [vi a0.Terms,vi a0.Nons,vi a0.Start,(vS d1 a0.Rules)]),pts b2 (.rw 0 [vi x1.Left,(vS d2 x1.Right)])]∧tm 1=(pV b1 0)∧tm 4=(pV b2 0)∧tm 44=(vS d1 a0.Rules)∧tm 45=(vN a0.Rules)∧tm 46=(vJ i6)∧tm 102=w2∧tm 103=(vN x3))) (fun k22=>?_) ?_
   ·refine ay (cY (xs:=x3) (fun(i14:Nat) (s25:Unit) tm H=>tm 104=vi i14∧∃(Z16 V16:PH),Gw Z10 V10 Z16 V16∧Sat Z16 V16 H [pts b1 (.rw 0 [vi a0.Terms,vi a0.Nons,vi a0.Start,(vS d1 a0.Rules)]),pts b2 (.rw 0 [vi x1.Left,(vS d2 x1.Right)])]∧tm 1=(pV b1 0)∧tm 4=(pV b2 0)∧tm 44=(vS d1 a0.Rules)∧tm 45=(vN a0.Rules)∧tm 46=(vJ i6)∧tm 102=w2∧tm 103=(vN x3)) (fun i14 x4 s25 y8 tm H24 q25 q26 j3 e9 k19 k20 k21=>?_) (fun s25 tm H23 jf jd=>?_) q27 ⟨rfl,_,_,Gw.refl _ _,s17,h34,h36,h37,h38,h39,rfl,rfl⟩)
    ·obtain⟨hti2,Z16,V16,g16,s26,h103,h104,h105,h106,h107,h108,h109⟩:=j3
     unfold P.E1.b2 at e9
     refine af (ao hti2 h109 (ae (ah (be rfl (Int.ofNat_lt.2 q26) (ar (ah (ay (af (aJ (v:=w2) h108 hti2 (h102.mono g16.v) rfl (Pu.ix_nat.trans q25) fun p3 q28=>cO rfl (h102.mono g16.v) s26.v rfl q28 (Pu.ix_nat.trans q25) fun c3 h117=>?_)))))))))
     obtain⟨w3,rfl,h118⟩:=Sh.K7 h117
     refine bv s26 fun b4 H26 s29=>?_
     obtain⟨d3,rfl⟩:=(h118).val
     refine aP (us':=[vi x4.Left,(vS d3 x4.Right)]) 0 s29 rfl rfl rfl rfl rfl rfl rfl fun H27 s30=>ae (af (ak 0 s30 rfl rfl rfl rfl (ak 2 s30 rfl h104 rfl rfl ?_)))
     obtain⟨x5,q29,e9⟩:=oB e9
     obtain⟨Z18,V18,W1,g18,u1,c4,c5,-,c7,c6⟩:=Sat.call (l1:=[]) s30
     refine au (mc rfl (mc rfl m0)) (X.J8 nd.J8 c4 (h118.mono (g18.v.trans u1)) (h18.mono (((g8.trans (g10.trans g16)).trans g18).v.trans u1)) q29) fun _ H28 i15=>?_
     obtain⟨rfl,s31⟩:=i15
     have s32:=c6 _ _ s31
     refine co rfl rfl (ae (aI rfl (fun q30=>?_) (fun q30=>?_)))
     ·replace e9:=ax q30 e9
      refine af (aa (v:=vi 6) rfl (ae (aL ?_)))
      have e10:=ci (k21 _ (sJ e9)) e1
      have e11:=ci (k8 _ (sJ e10)) e
      obtain rfl:=oJ e11
      exact⟨.inr rfl,_,(ar1 rfl),rfl,((s32.pick [] rfl).weak (g1.trans (g2.trans (g3.trans (g4.trans (g5.trans (g6.trans (g8.trans (g10.trans (g16.trans g18))))))))) hs.zv)⟩
     replace e9:=bb q30 e9
     refine ar (aF (bq (az hti2 rfl (aa (v:=vi (Pu.W ((i14:Int)+1))) rfl (ae ?_)))))
     exact k19 _ _ _ (sJ e9) ⟨(iv rfl (bE q26 (h102).bd)),_,_,(g16.trans g18),(s32.pick [1,2] rfl),h103,h104,h105,h106,h107,h108,h109⟩
    ·obtain⟨hte2,Z19,V19,g19,s33,h119,h120,h121,h122,h123,h124,h125⟩:=jd
     refine af (ao hte2 h125 (ae (ah (bc rfl (Int.lt_irrefl _) (aR (aU (aU (bT ?_))))))))
     exact k22 _ _ ⟨_,jf,_,_,g19,s33,h119,h120,h121,h122,h123,h124,h125⟩
   intro _ H25 i16
   obtain⟨s27,f2,Z17,V17,g17,s28,h110,h111,h112,h113,h114,h115,h116⟩:=i16
   replace e1:=bD f2 e1
   refine aF (bq (az h114 rfl (aa (v:=vi (Pu.W ((i6:Int)+1))) rfl (ae ?_))))
   exact k6 _ _ _ (sJ e1) ⟨(iv rfl (bE q9 ((hp1.mono (g1.trans (g2.trans (g3.trans (g4.trans g5)))).v)).bd)),_,_,(g6.trans (g8.trans (g10.trans g17))),(s28.pick [0] rfl),h110,h112,h113⟩
  ·obtain⟨hte0,Z20,V20,g20,s34,h126,h127,h128⟩:=jd
   refine af (ao hte0 h128 (ae (ah (bc rfl (Int.lt_irrefl _) (aR (aU (aU (bT ?_))))))))
   exact k9 _ _ ⟨_,jf,_,_,g20,s34,h126,h127,h128⟩
 intro _ H9 i17
 obtain⟨s9,f3,Z7,V7,g7,s10,h14,h15,h16⟩:=i17
 replace e:=bD f3 e
 refine af (aa (v:=vi 0) rfl (ae (aL ?_)))
 obtain rfl:=oJ e
 exact⟨.inr rfl,_,(ar1 rfl),rfl,((s10.pick [] rfl).weak (g1.trans (g2.trans (g3.trans (g4.trans (g5.trans g7))))) hs.zv)⟩
structure Nd.E6 (T:FuncId→Option AFunc):Prop where
 own:Has T I.E6 F.E6
theorem X.E6 (nd:Nd.E6 T){v1:Value}{a0:(List Int)}{a1:Int}(hs:Sat Z V H [])(hp1:RdS Sh.int V v1 a0){r:Int}(e:P.E6 a0 a1=some r):
 G T I.E6 [v1,vi a1] H (fun rv H'=>rv=vi r∧Sat Z V H' []):=by
 unfold P.E6 at e
 refine bB nd.own (af (aa (v:=vi 0) rfl (ae (ah (af (aa (v:=v1) rfl (aD rfl (hp1).len (aa (v:=vi 0) rfl (ae ?_)))))))))
 obtain⟨x2,q3,e⟩:=oB e
 obtain⟨rfl,q5⟩:=bp q3
 obtain⟨y1,q6,e⟩:=oB e
 refine bf (I:=fun tm H=>∃(s3:Unit),y1= .out s3∧(∃(Z2 V2:PH),Gw Z V Z2 V2∧Sat Z2 V2 H []∧tm 0=v1∧tm 1=vi a1∧tm 7=(vN a0))) (fun k4=>?_) ?_
 ·refine ay (cY (xs:=Pu.ran (a0.length:Int)) (fun(i1:Nat) (s1:Unit) tm H=>tm 8=vi i1∧∃(Z1 V1:PH),Gw Z V Z1 V1∧Sat Z1 V1 H []∧tm 0=v1∧tm 1=vi a1∧tm 7=(vN a0)) (fun i1 x1 s1 y2 tm H2 q1 q2 j1 e1 k1 k2 k3=>?_) (fun s1 tm H1 jf jd=>?_) q6 ⟨rfl,_,_,Gw.refl _ _,hs,rfl,rfl,rfl⟩)
  ·obtain⟨hti0,Z1,V1,g1,s2,h1,h2,h3⟩:=j1
   unfold P.E6.b0 at e1
   have hti0:=iv hti0 (cD q1).symm
   refine af (ao hti0 h3 (ae (ah (be rfl (cf q1) (ar (ah (ay (af (aa hti0 (aa (v:=vi x1) rfl (ae (af (aa h2 (aa h1 (aa (v:=vi x1) rfl ?_)))))))))))))))
   obtain⟨x3,q7,e1⟩:=oB e1
   refine aJ (v:=v1) rfl rfl (hp1.mono g1.v) rfl q7 fun p1 q8=>cj rfl (hp1.mono g1.v) s2.v q8 q7 (co rfl rfl (ae (aI rfl (fun q9=>?_) (fun q9=>?_))))
   ·replace e1:=ax q9 e1
    refine af (aa (v:=vi x1) rfl (aa (v:=vi x1) rfl (ae (ap (P:=fun tm=>tm 4=vi x1∧True) ⟨rfl,trivial⟩ ?_))))
    intro _ i2
    obtain⟨h7,-⟩:=i2
    refine aL ?_
    have e2:=ci (k3 _ (sJ e1)) e
    obtain rfl:=oJ e2
    exact⟨.inr rfl,_,(ar1 h7),rfl,(s2.weak g1 hs.zv)⟩
   replace e1:=bb q9 e1
   refine ar (aF (bq (az hti0 rfl (aa (v:=vi (Pu.W (x1+1))) rfl (ae ?_)))))
   exact k1 _ _ _ (sJ e1) ⟨(iv rfl (bU q1 q5)),_,_,g1,s2,h1,h2,h3⟩
  ·obtain⟨hte0,Z3,V3,g3,s5,h8,h9,h10⟩:=jd
   refine af (ao hte0 h10 (ae (ah (bc rfl (bA _) (aR (aU (aU (bT ?_))))))))
   exact k4 _ _ ⟨_,jf,_,_,g3,s5,h8,h9,h10⟩
 intro _ H3 i3
 obtain⟨s3,f1,Z2,V2,g2,s4,h4,h5,h6⟩:=i3
 replace e:=bD f1 e
 refine af (aa (v:=vi (-1)) rfl (ae (aL ?_)))
 obtain rfl:=oJ e
 exact⟨.inr rfl,_,(ar1 rfl),rfl,(s4.weak g2 hs.zv)⟩
structure Nd.C4 (T:FuncId→Option AFunc):Prop where
 own:Has T I.C4 F.C4
 E6:Nd.E6 T
theorem X.C4 (nd:Nd.C4 T){v1:Value}{a0:(List Int)}{a1:Int}(hs:Sat Z V H [])(hp1:RdS Sh.int V v1 a0){r:Bool}(e:P.C4 a0 a1=some r):
 G T I.C4 [v1,vi a1] H (fun rv H'=>rv=(.bool r)∧Sat Z V H' []):=by
 unfold P.C4 at e
 refine bB nd.own (af (aa (v:=.bool false) rfl (ae (af (aa (v:=v1) rfl (aa (v:=vi a1) rfl ?_))))))
 obtain⟨x1,q1,e⟩:=oB e
 obtain⟨Z1,V1,W1,g1,u1,c1,c2,-,c4,c3⟩:=Sat.call (l1:=[]) hs
 refine au (mc rfl (mc rfl m0)) (X.E6 nd.E6 c1 (hp1.mono (g1.v.trans u1)) q1) fun _ H1 i1=>?_
 obtain⟨rfl,s1⟩:=i1
 have s2:=c3 _ _ s1
 refine cd rfl rfl (aa (v:=.bool (decide (0≤x1))) rfl (ae (aL ?_)))
 obtain rfl:=oJ e
 exact⟨.inr rfl,_,(ar1 rfl),rfl,(s2.weak g1 hs.zv)⟩
structure Nd.F3 (T:FuncId→Option AFunc):Prop where
 own:Has T I.F3 F.F3
 C4:Nd.C4 T
theorem X.F3 (nd:Nd.F3 T){v1:Value}{v2:Value}{a0:Ty.E8}{a1:(List Int)}(hs:Sat Z V H [])(hp1:RdS Sh.E2 V v1 a0.Rules)(hp2:RdS Sh.int V v2 a1){r:Int}(e:P.F3 a0 a1=some r):
 G T I.F3 [(.agg #[vi a0.Terms,vi a0.Nons,vi a0.Start,v1]),v2] H (fun rv H'=>rv=vi r∧Sat Z V H' []):=by
 unfold P.F3 at e
 refine bB nd.own (af ?_)
 obtain⟨d1,rfl⟩:=(hp1).val
 refine cx hs rfl rfl fun b1 H1 s1=>aa (v:=vi 0) rfl (ae (af (aa (v:=.bool true) rfl (aa (v:=.bool true) rfl (ae (ah (af (am rfl (ak 0 s1 rfl rfl rfl rfl (aD rfl (hp1).len (aa (v:=vi 0) rfl (ae ?_))))))))))))
 obtain⟨y1,q3,e⟩:=oB e
 refine ay (aV (xs:=a0.Rules) (fun(i1:Nat) (s2:(Bool×Bool)) tm H=>tm 14=vi i1∧∃(Z1 V1:PH),Gw Z V Z1 V1∧Sat Z1 V1 H []∧tm 1=v2∧tm 5=(.bool s2.1)∧tm 6=(.bool s2.2)∧tm 12=(vS d1 a0.Rules)∧tm 13=(vN a0.Rules)) (fun i1 x1 s2 s4 tm H3 q1 q2 j1 e1 k1=>?_) (fun tm H2 jd=>?_) q3 ⟨rfl,_,_,Gw.refl _ _,(s1.pick [] rfl),rfl,rfl,rfl,rfl,rfl⟩)
 ·obtain⟨hti0,Z1,V1,g1,s3,h1,h2,h3,h4,h5⟩:=j1
  unfold P.F3.b0 at e1
  refine af (ao hti0 h5 (ae (ah (be rfl (Int.ofNat_lt.2 q2) (ar (ah (ay (af (aJ (v:=vS d1 a0.Rules) h4 hti0 (hp1.mono g1.v) rfl (Pu.ix_nat.trans q1) fun p1 q4=>cO rfl (hp1.mono g1.v) s3.v rfl q4 (Pu.ix_nat.trans q1) fun c1 h6=>?_)))))))))
  obtain⟨w1,rfl,h7⟩:=Sh.K7 h6
  refine bv s3 fun b2 H4 s5=>?_
  obtain⟨d2,rfl⟩:=(h7).val
  refine aP (us':=[vi x1.Left,(vS d2 x1.Right)]) 0 s5 rfl rfl rfl rfl rfl rfl rfl fun H5 s6=>ae (ah (af (aa h1 (am rfl (ak 0 s6 rfl rfl rfl rfl ?_)))))
  obtain⟨x2,q5,e1⟩:=oB e1
  obtain⟨Z2,V2,W1,g2,u1,c2,c3,-,c5,c4⟩:=Sat.call (l1:=[]) s6
  refine au (mc rfl (mc rfl m0)) (X.C4 nd.C4 c2 (hp2.mono ((g1.trans g2).v.trans u1)) q5) fun _ H6 i2=>?_
  obtain⟨rfl,s7⟩:=i2
  have s8:=c4 _ _ s7
  refine cy rfl (ae (bx rfl (fun q6=>?_) (fun q6=>?_)))
  ·replace e1:=ax q6 e1
   refine aR (aU (bT (bq (az hti0 rfl (aa (v:=vi (Pu.W ((i1:Int)+1))) rfl (ae ?_))))))
   obtain rfl:=oJ e1
   exact k1 _ _ ⟨(iv rfl (bE q2 (hp1).bd)),_,_,(g1.trans g2),(s8.pick [] rfl),h1,h2,h3,h4,h5⟩
  replace e1:=aS q6 e1
  refine ar (af (am rfl (ak 0 s8 rfl rfl rfl rfl (aD rfl ((h7.mono g2.v)).len (aa (v:=vi 0) rfl (ae (ap (P:=fun tm=>tm 1=v2∧tm 5=(.bool s2.1)∧tm 6=(.bool s2.2)∧tm 8=(pV b2 0)∧tm 12=(vS d1 a0.Rules)∧tm 13=(vN a0.Rules)∧tm 14=(vJ i1)∧tm 24=(vS d2 x1.Right)∧tm 25=(vN x1.Right)∧tm 26=vi 0∧True) ⟨h1,h2,h3,rfl,h4,h5,hti0,rfl,rfl,rfl,trivial⟩ ?_)))))))
  intro _ i3
  obtain⟨h8,h9,h10,h11,h12,h13,h14,h15,h16,h17,-⟩:=i3
  obtain⟨y2,q9,e1⟩:=oB e1
  refine ay (aV (xs:=x1.Right) (fun(i4:Nat) (s9:(Bool×Bool)) tm H=>tm 26=vi i4∧∃(Z3 V3:PH),Gw Z2 V2 Z3 V3∧Sat Z3 V3 H [pts b2 (.rw 0 [vi x1.Left,(vS d2 x1.Right)])]∧tm 1=v2∧tm 5=(.bool s9.1)∧tm 6=(.bool s9.2)∧tm 8=(pV b2 0)∧tm 12=(vS d1 a0.Rules)∧tm 13=(vN a0.Rules)∧tm 14=(vJ i1)∧tm 24=(vS d2 x1.Right)∧tm 25=(vN x1.Right)) (fun i4 x3 s9 s11 tm H8 q7 q8 j2 e2 k2=>?_) (fun tm H7 jd=>?_) q9 ⟨h17,_,_,Gw.refl _ _,s8,h8,h9,h10,h11,h12,h13,h14,h15,h16⟩)
  ·obtain⟨hti1,Z3,V3,g3,s10,h18,h19,h20,h21,h22,h23,h24,h25,h26⟩:=j2
   unfold P.F3.b1 at e2
   refine af (ao hti1 h26 (ae (ah (be rfl (Int.ofNat_lt.2 q8) (ar (ah (ay (af (aa hti1 (aJ (v:=vS d2 x1.Right) h25 hti1 (h7.mono (g2.trans g3).v) rfl (Pu.ix_nat.trans q7) fun p2 q10=>cO rfl (h7.mono (g2.trans g3).v) s10.v rfl q10 (Pu.ix_nat.trans q7) fun c6 h27=>?_))))))))))
   obtain rfl:=h27
   refine bv s10 fun b3 H9 s12=>aa (v:=vJ i4) rfl (aP (us':=[(.bool x3.Term),vi x3.N]) 0 s12 rfl rfl rfl rfl rfl rfl rfl fun H10 s13=>ae (ah (af (am rfl (ak 0 s13 rfl rfl rfl rfl (aa (v:=.bool x3.Term) rfl ?_))))))
   obtain⟨y3,e3,e2⟩:=oB e2
   refine cv 6 (I:=fun tm H=>∃(Z4 V4:PH),Gw Z3 V3 Z4 V4∧Sat Z4 V4 H [pts b2 (.rw 0 [vi x1.Left,(vS d2 x1.Right)])]∧tm 1=v2∧tm 5=(.bool s9.1)∧tm 6=(.bool s9.2)∧tm 8=(pV b2 0)∧tm 9=(vJ i4)∧tm 12=(vS d1 a0.Rules)∧tm 13=(vN a0.Rules)∧tm 14=(vJ i1)∧tm 24=(vS d2 x1.Right)∧tm 25=(vN x1.Right)∧tm 26=(vJ i4)∧tm 39=(.bool y3)) (fun k3=>?_) ?_
   ·rcases Bool.eq_false_or_eq_true x3.Term with q11|q11
    ·replace e3:=ax q11 e3
     refine aE rfl q11 (aE rfl q11 (aE rfl q11 (aE rfl q11 (aE rfl q11 (aY (a:=.bool true) rfl q11 rfl ?_)))))
     obtain rfl:=oJ e3
     exact k3 _ _ ⟨_,_,Gw.refl _ _,(s13.pick [1] rfl),h18,h19,h20,h21,rfl,h22,h23,h24,h25,h26,hti1,rfl⟩
    replace e3:=aS q11 e3
    refine aC rfl q11 (aa h18 (aC rfl q11 (am rfl (aC rfl q11 (ak 0 s13 rfl rfl rfl rfl (aC rfl q11 ?_))))))
    obtain⟨x4,q12,e3⟩:=oB e3
    obtain⟨Z5,V5,W2,g5,u2,c7,c8,-,c10,c9⟩:=Sat.call (l1:=[]) s13
    refine au (mc rfl (mc rfl m0)) (X.C4 nd.C4 c7 (hp2.mono (((g1.trans (g2.trans g3)).trans g5).v.trans u2)) q12) fun _ H12 i5=>?_
    obtain⟨rfl,s15⟩:=i5
    have s16:=c9 _ _ s15
    refine aC rfl q11 (cy rfl (aX (b:=.bool (!x4)) rfl q11 rfl ?_))
    obtain rfl:=oJ e3
    exact k3 _ _ ⟨_,_,g5,(s16.pick [1] rfl),h18,h19,h20,h21,rfl,h22,h23,h24,h25,h26,hti1,rfl⟩
   intro _ H11 i6
   obtain⟨Z4,V4,g4,s14,h28,h29,h30,h31,h32,h33,h34,h35,h36,h37,h38,h39⟩:=i6
   refine ae (bx h39 (fun q13=>?_) (fun q13=>?_))
   ·replace e2:=ax q13 e2
    refine aR (aU (bT (bq (az h38 rfl (aa (v:=vi (Pu.W ((i4:Int)+1))) rfl (ae ?_))))))
    obtain rfl:=oJ e2
    exact k2 _ _ ⟨(iv rfl (bE q8 ((h7.mono g2.v)).bd)),_,_,(g3.trans g4),s14,h28,h29,h30,h31,h33,h34,h35,h36,h37⟩
   replace e2:=aS q13 e2
   refine ar (af (aa h29 (aa (v:=.bool s9.1) rfl (cv 7 (I:=fun tm H=>tm 48= .bool (s9.1&&(decide ((i4:Int)=(Pu.W ((x1.Right.length:Int)-1)))))∧(∃(Z6 V6:PH),Gw Z4 V4 Z6 V6∧Sat Z6 V6 H [pts b2 (.rw 0 [vi x1.Left,(vS d2 x1.Right)])]∧tm 1=v2∧tm 6=(.bool s9.2)∧tm 8=(pV b2 0)∧tm 9=(vJ i4)∧tm 12=(vS d1 a0.Rules)∧tm 13=(vN a0.Rules)∧tm 14=(vJ i1)∧tm 24=(vS d2 x1.Right)∧tm 25=(vN x1.Right)∧tm 26=(vJ i4))) (fun k4=>?_) ?_))))
   ·rcases Bool.eq_false_or_eq_true s9.1 with q14|q14
    ·refine aC rfl q14 (aa h32 (aC rfl q14 (am h31 (aC rfl q14 (ak 0 s14 rfl rfl rfl rfl (aC rfl q14 (aD rfl ((h7.mono (g2.trans (g3.trans g4)).v)).len (aC rfl q14 (bz rfl rfl (aC rfl q14 (co rfl rfl (aY (a:=.bool (decide ((i4:Int)=(Pu.W ((x1.Right.length:Int)-1))))) rfl q14 rfl ?_))))))))))))
     exact k4 _ _ ⟨gf rfl (by first|(rw [q14];first|done|rfl)|simp [q14]),_,_,Gw.refl _ _,s14,h28,h30,h31,h32,h33,h34,h35,h36,h37,h38⟩
    refine aE rfl q14 (aE rfl q14 (aE rfl q14 (aE rfl q14 (aE rfl q14 (aE rfl q14 (aX (b:=.bool false) rfl q14 rfl ?_))))))
    exact k4 _ _ ⟨gf rfl (by first|(rw [q14];first|done|rfl)|simp [q14]),_,_,Gw.refl _ _,s14,h28,h30,h31,h32,h33,h34,h35,h36,h37,h38⟩
   intro _ H13 i7
   obtain⟨h50,Z6,V6,g6,s17,h40,h41,h42,h43,h44,h45,h46,h47,h48,h49⟩:=i7
   refine aa h50 (ae (bq (aa h41 (aa (v:=.bool s9.2) rfl (cv 3 (I:=fun tm H=>tm 53= .bool (s9.2&&(decide ((i4:Int)=0)))∧(∃(Z7 V7:PH),Gw Z6 V6 Z7 V7∧Sat Z7 V7 H [pts b2 (.rw 0 [vi x1.Left,(vS d2 x1.Right)])]∧tm 1=v2∧tm 5=(.bool (s9.1&&(decide ((i4:Int)=(Pu.W ((x1.Right.length:Int)-1))))))∧tm 8=(pV b2 0)∧tm 12=(vS d1 a0.Rules)∧tm 13=(vN a0.Rules)∧tm 14=(vJ i1)∧tm 24=(vS d2 x1.Right)∧tm 25=(vN x1.Right)∧tm 26=(vJ i4))) (fun k5=>?_) ?_)))))
   ·rcases Bool.eq_false_or_eq_true s9.2 with q15|q15
    ·refine aC rfl q15 (aa h43 (aC rfl q15 (co rfl rfl (aY (a:=.bool (decide ((i4:Int)=0))) rfl q15 rfl ?_))))
     exact k5 _ _ ⟨gf rfl (by first|(rw [q15];first|done|rfl)|simp [q15]),_,_,Gw.refl _ _,s17,h40,rfl,h42,h44,h45,h46,h47,h48,h49⟩
    refine aE rfl q15 (aE rfl q15 (aX (b:=.bool false) rfl q15 rfl ?_))
    exact k5 _ _ ⟨gf rfl (by first|(rw [q15];first|done|rfl)|simp [q15]),_,_,Gw.refl _ _,s17,h40,rfl,h42,h44,h45,h46,h47,h48,h49⟩
   intro _ H14 i8
   obtain⟨h60,Z7,V7,g7,s18,h51,h52,h53,h54,h55,h56,h57,h58,h59⟩:=i8
   refine aa h60 (ae (aF (bq (az h59 rfl (aa (v:=vi (Pu.W ((i4:Int)+1))) rfl (ae ?_))))))
   obtain rfl:=oJ e2
   exact k2 _ _ ⟨(iv rfl (bE q8 ((h7.mono g2.v)).bd)),_,_,(g3.trans (g4.trans (g6.trans g7))),s18,h51,h52,rfl,h53,h54,h55,h56,h57,h58⟩
  obtain⟨hte1,Z8,V8,g8,s19,h61,h62,h63,h64,h65,h66,h67,h68,h69⟩:=jd
  refine af (ao hte1 h69 (ae (ah (bc rfl (Int.lt_irrefl _) (aR (aU (aU (bT (aF (bq (az h67 rfl (aa (v:=vi (Pu.W ((i1:Int)+1))) rfl (ae ?_)))))))))))))
  obtain rfl:=oJ e1
  exact k1 _ _ ⟨(iv rfl (bE q2 (hp1).bd)),_,_,(g1.trans (g2.trans g8)),(s19.pick [] rfl),h61,h62,h63,h65,h66⟩
 obtain⟨hte0,Z9,V9,g9,s20,h70,h71,h72,h73,h74⟩:=jd
 refine af (ao hte0 h74 (ae (ah (bc rfl (Int.lt_irrefl _) (aR (aU (aU (bT (ah (ay (af (aa h71 (aa (v:=.bool y1.1) rfl (ae (bx rfl (fun q16=>?_) (fun q16=>?_))))))))))))))))
 ·replace e:=ax q16 e
  refine af (aa (v:=vi 0) rfl (ae (aL ?_)))
  obtain rfl:=oJ e
  exact⟨.inr rfl,_,(ar1 rfl),rfl,(s20.weak g9 hs.zv)⟩
 replace e:=aS q16 e
 refine af (aa h72 (aa (v:=.bool y1.2) rfl (ae (bx rfl (fun q17=>?_) (fun q17=>?_)))))
 ·replace e:=ax q17 e
  refine af (aa (v:=vi 1) rfl (ae (aL ?_)))
  obtain rfl:=oJ e
  exact⟨.inr rfl,_,(ar1 rfl),rfl,(s20.weak g9 hs.zv)⟩
 replace e:=aS q17 e
 refine ar (aF (af (aa (v:=vi 2) rfl (ae (aL ?_)))))
 obtain rfl:=oJ e
 exact⟨.inr rfl,_,(ar1 rfl),rfl,(s20.weak g9 hs.zv)⟩
structure Nd.A9 (T:FuncId→Option AFunc):Prop where
 own:Has T I.A9 F.A9
 E1:Nd.E1 T
 F3:Nd.F3 T
theorem X.A9 (nd:Nd.A9 T){v1:Value}{a0:Ty.E8}(hs:Sat Z V H [])(hp1:RdS Sh.E2 V v1 a0.Rules){r:((List Ty.B6)×Int)}(e:P.A9 a0=some r):
 G T I.A9 [(.agg #[vi a0.Terms,vi a0.Nons,vi a0.Start,v1])] H (fun rv H'=>∃(u1:Value),rv=(.tuple #[u1,vi r.2])∧Sat Z V H' [It.sl (Sh.ro Sh.B6) u1 r.1]):=by
 unfold P.A9 at e
 refine bB nd.own (af ?_)
 obtain⟨d1,rfl⟩:=(hp1).val
 refine cx hs rfl rfl fun b1 H1 s1=>aa (v:=.slice none 0 0) rfl (aa (v:=vi 0) rfl (ae (ah (af (ak 0 s1 rfl rfl rfl rfl ?_)))))
 obtain⟨x1,q1,e⟩:=oB e
 obtain⟨Z1,V1,W1,g1,u1,c1,c2,-,c4,c3⟩:=Sat.call (l1:=[]) s1
 refine au (mc rfl m0) (X.E1 nd.E1 c1 (hp1.mono (g1.v.trans u1)) q1) fun _ H2 i1=>?_
 obtain⟨rfl,s2⟩:=i1
 have s3:=c3 _ _ s2
 refine aa (v:=vi x1) rfl (ae (af (aa (v:=vi x1) rfl (cQ rfl rfl (ae (aI rfl (fun q2=>?_) (fun q2=>?_)))))))
 ·replace e:=ax q2 e
  refine af (aa (v:=vi x1) rfl (aa (v:=.slice none 0 0) rfl (aa (v:=vi x1) rfl (ae (ap (P:=fun tm=>tm 2=(.slice none 0 0)∧tm 3=vi x1∧True) ⟨rfl,rfl,trivial⟩ ?_)))))
  intro _ i2
  obtain⟨h1,h2,-⟩:=i2
  refine aL ?_
  obtain rfl:=oJ e
  exact⟨.inr rfl,_,(ar2 h1 h2),_,rfl,(((s3.push (aW (s:=Sh.ro Sh.B6))).pick [0] rfl).weak g1 hs.zv)⟩
 replace e:=bb q2 e
 refine ar (af (am rfl (ak 0 s3 rfl rfl rfl rfl ?_)))
 obtain⟨x2,q3,e⟩:=oB e
 refine o_mksH (s:=Sh.bool) s3 rfl rfl q3 fun w1 H3 s4=>aa (v:=w1) rfl (ae (ap (P:=fun tm=>tm 1=(pV b1 0)∧tm 5=w1∧True) ⟨rfl,rfl,trivial⟩ ?_))
 intro _ i3
 obtain⟨h3,h4,-⟩:=i3
 refine ah (af (aa h4 (aD rfl ((s4.curS (s:=sB) 0 rfl)).len (aa (v:=vi 0) rfl (ae ?_)))))
 obtain⟨x4,q6,e⟩:=oB e
 obtain⟨rfl,q8⟩:=bp q6
 obtain⟨y1,q9,e⟩:=oB e
 refine ay (aV (xs:=Pu.ran (x2.length:Int)) (fun(i4:Nat) (s5:(List (List Bool))) tm H=>tm 29=vi i4∧∃(Z2 V2:PH),Gw Z1 V1 Z2 V2∧Sat Z2 V2 H [pts b1 (.rw 0 [vi a0.Terms,vi a0.Nons,vi a0.Start,(vS d1 a0.Rules)]),It.sl sB w1 s5]∧tm 1=(pV b1 0)∧tm 5=w1∧tm 28=(vN x2)) (fun i4 x3 s5 s7 tm H5 q4 q5 j1 e1 k1=>?_) (fun tm H4 jd=>?_) q9 ⟨rfl,_,_,Gw.refl _ _,(s4.pick [1,0] rfl),h3,h4,rfl⟩)
 ·obtain⟨hti0,Z2,V2,g2,s6,h5,h6,h7⟩:=j1
  unfold P.A9.b0 at e1
  have hti0:=iv hti0 (cD q4).symm
  refine af (ao hti0 h7 (ae (ah (be rfl (cf q4) (ar (ah (ay (af (aa hti0 (aa (v:=vi x3) rfl (ae (af (aa h6 (aa (v:=vi x3) rfl (am h5 (ak 0 s6 rfl rfl rfl rfl ?_))))))))))))))))
  obtain⟨x5,q10,e1⟩:=oB e1
  refine io (s:=Sh.bool) s6 Sh.G5 rfl rfl rfl rfl q10 fun w2 H6 s8=>?_
  obtain⟨x6,q11,e1⟩:=oB e1
  refine aJ (v:=w1) rfl rfl (s8.curS (s:=sB) 2 rfl) rfl q11 fun p1 q12=>kj 1 s8 rfl rfl rfl q12 q11 fun H7 s9=>ae (bq (aa h6 (aa (v:=vi x3) rfl ?_)))
  obtain⟨x7,q13,e1⟩:=oB e1
  refine aJ (v:=w1) rfl rfl (s9.curS (s:=sB) 1 rfl) rfl q13 fun p2 q14=>fT rfl (s9.curS (s:=sB) 1 rfl) pR q14 q13 fun w3 h8 h9=>aa (v:=vi x3) rfl ?_
  obtain⟨x8,q15,e1⟩:=oB e1
  refine aJ (v:=w3) rfl rfl h8 rfl q15 fun p3 q16=>o_st2 1 s9 rfl Sh.G5 rfl rfl rfl q14 q13 h9 q16 q15 rfl rfl fun H8 s10=>ae (aF (bq (az hti0 rfl (aa (v:=vi (Pu.W (x3+1))) rfl (ae ?_)))))
  obtain rfl:=oJ e1
  exact k1 _ _ ⟨(iv rfl (bU q4 q8)),_,_,g2,s10,h5,h6,h7⟩
 obtain⟨hte0,Z3,V3,g3,s11,h10,h11,h12⟩:=jd
 refine af (ao hte0 h12 (ae (ah (bc rfl (bA _) (aR (aU (aU (bT (ah (af (am h10 (ak 0 s11 rfl rfl rfl rfl (aD rfl ((hp1.mono (g1.trans g3).v)).len (aa (v:=vi 0) rfl (ae ?_)))))))))))))))
 obtain⟨y2,q19,e⟩:=oB e
 refine ay (aV (xs:=a0.Rules) (fun(i5:Nat) (s12:(List (List Bool))) tm H=>tm 48=vi i5∧∃(Z4 V4:PH),Gw Z3 V3 Z4 V4∧Sat Z4 V4 H [pts b1 (.rw 0 [vi a0.Terms,vi a0.Nons,vi a0.Start,(vS d1 a0.Rules)]),It.sl sB w1 s12]∧tm 1=(pV b1 0)∧tm 5=w1∧tm 46=(vS d1 a0.Rules)∧tm 47=(vN a0.Rules)) (fun i5 x9 s12 s14 tm H11 q17 q18 j2 e2 k2=>?_) (fun tm H10 jd=>?_) q19 ⟨rfl,_,_,Gw.refl _ _,s11,h10,h11,rfl,rfl⟩)
 ·obtain⟨hti1,Z4,V4,g4,s13,h13,h14,h15,h16⟩:=j2
  unfold P.A9.b1 at e2
  refine af (ao hti1 h16 (ae (ah (be rfl (Int.ofNat_lt.2 q18) (ar (ah (ay (af (aJ (v:=vS d1 a0.Rules) h15 hti1 (hp1.mono (g1.trans (g3.trans g4)).v) rfl (Pu.ix_nat.trans q17) fun p4 q20=>cO rfl (hp1.mono (g1.trans (g3.trans g4)).v) s13.v rfl q20 (Pu.ix_nat.trans q17) fun c5 h17=>?_)))))))))
  obtain⟨w4,rfl,h18⟩:=Sh.K7 h17
  refine bv s13 fun b2 H12 s15=>?_
  obtain⟨d2,rfl⟩:=(h18).val
  refine aP (us':=[vi x9.Left,(vS d2 x9.Right)]) 0 s15 rfl rfl rfl rfl rfl rfl rfl fun H13 s16=>ae (af (am rfl (ak 0 s16 rfl rfl rfl rfl (aD rfl (h18).len (aa (v:=vi 0) rfl (ae ?_))))))
  obtain⟨y3,q23,e2⟩:=oB e2
  refine ay (aV (xs:=x9.Right) (fun(i6:Nat) (s17:(List (List Bool))) tm H=>tm 55=vi i6∧∃(Z5 V5:PH),Gw Z4 V4 Z5 V5∧Sat Z5 V5 H [pts b1 (.rw 0 [vi a0.Terms,vi a0.Nons,vi a0.Start,(vS d1 a0.Rules)]),It.sl sB w1 s17,pts b2 (.rw 0 [vi x9.Left,(vS d2 x9.Right)])]∧tm 1=(pV b1 0)∧tm 5=w1∧tm 8=(pV b2 0)∧tm 46=(vS d1 a0.Rules)∧tm 47=(vN a0.Rules)∧tm 48=(vJ i5)∧tm 53=(vS d2 x9.Right)∧tm 54=(vN x9.Right)) (fun i6 x10 s17 s19 tm H15 q21 q22 j3 e3 k3=>?_) (fun tm H14 jd=>?_) q23 ⟨rfl,_,_,Gw.refl _ _,(s16.pick [1,2,0] rfl),h13,h14,rfl,h15,h16,hti1,rfl,rfl⟩)
  ·obtain⟨hti2,Z5,V5,g5,s18,h19,h20,h21,h22,h23,h24,h25,h26⟩:=j3
   unfold P.A9.b2 at e3
   refine af (ao hti2 h26 (ae (ah (be rfl (Int.ofNat_lt.2 q22) (ar (ah (ay (af (aJ (v:=vS d2 x9.Right) h25 hti2 (h18.mono g5.v) rfl (Pu.ix_nat.trans q21) fun p5 q24=>cO rfl (h18.mono g5.v) s18.v rfl q24 (Pu.ix_nat.trans q21) fun c6 h27=>?_)))))))))
   obtain rfl:=h27
   refine bv s18 fun b3 H16 s20=>aP (us':=[(.bool x10.Term),vi x10.N]) 0 s20 rfl rfl rfl rfl rfl rfl rfl fun H17 s21=>ae (af (am rfl (ak 0 s21 rfl rfl rfl rfl (cy rfl (ae ?_)))))
   obtain⟨y4,e4,e3⟩:=oB e3
   refine bf (I:=fun tm H=>∃(Z6 V6:PH),Gw Z5 V5 Z6 V6∧Sat Z6 V6 H [pts b1 (.rw 0 [vi a0.Terms,vi a0.Nons,vi a0.Start,(vS d1 a0.Rules)]),It.sl sB w1 y4,pts b2 (.rw 0 [vi x9.Left,(vS d2 x9.Right)])]∧tm 1=(pV b1 0)∧tm 5=w1∧tm 8=(pV b2 0)∧tm 46=(vS d1 a0.Rules)∧tm 47=(vN a0.Rules)∧tm 48=(vJ i5)∧tm 53=(vS d2 x9.Right)∧tm 54=(vN x9.Right)∧tm 55=(vJ i6)) (fun k4=>?_) ?_
   ·refine bx rfl (fun q25=>?_) (fun q25=>?_)
    ·replace e4:=ax q25 e4
     refine ap (P:=fun tm=>tm 1=(pV b1 0)∧tm 5=w1∧tm 8=(pV b2 0)∧tm 10=(pV b3 0)∧tm 46=(vS d1 a0.Rules)∧tm 47=(vN a0.Rules)∧tm 48=(vJ i5)∧tm 53=(vS d2 x9.Right)∧tm 54=(vN x9.Right)∧tm 55=(vJ i6)∧True) ⟨h19,h20,h21,rfl,h22,h23,h24,h25,h26,hti2,trivial⟩ ?_
     intro _ i7
     obtain⟨h37,h38,h39,h40,h41,h42,h43,h44,h45,h46,-⟩:=i7
     refine aA s21 fun n1 H19 s23 q26 d3=>aj h38 (bt h39 (aZ (q26 _ _ (an.2 ⟨s23.curB 3 rfl,by simp⟩)) 3 s23 rfl rfl rfl rfl ?_))
     obtain⟨x11,q27,e4⟩:=oB e4
     refine aq (v:=w1) rfl rfl (s23.curS (s:=sB) 2 rfl) rfl q27 fun p6 q28=>dt ((s23.curS 2 rfl).low pR q26) rfl (s23.curS (s:=sB) 2 rfl) pR q28 q27 fun w5 h47 h48=>bt h40 (aZ (q26 _ _ (an.2 ⟨s23.curB 0 rfl,by simp⟩)) 0 s23 rfl rfl rfl rfl ?_)
     obtain⟨x12,q29,e4⟩:=oB e4
     refine aq (v:=w5) rfl rfl h47 rfl q29 fun p7 q30=>kf 2 s23 rfl Sh.G5 rfl rfl rfl q28 q27 h48 q30 q29 rfl rfl fun H20 s24 k5=>?_
     have d4:=d3.keep k5
     refine aQ aK ?_
     obtain rfl:=oJ e4
     exact k4 _ _ ⟨_,_,Gw.refl _ _,(s24.pick [1,2,3] rfl),h37,h38,h39,h41,h42,h43,h44,h45,h46⟩
    replace e4:=aS q25 e4
    refine ar ?_
    obtain rfl:=oJ e4
    exact k4 _ _ ⟨_,_,Gw.refl _ _,(s21.pick [1,2,3] rfl),h19,h20,h21,h22,h23,h24,h25,h26,hti2⟩
   intro _ H18 i8
   obtain⟨Z6,V6,g6,s22,h28,h29,h30,h31,h32,h33,h34,h35,h36⟩:=i8
   refine aF (bq (az h36 rfl (aa (v:=vi (Pu.W ((i6:Int)+1))) rfl (ae ?_))))
   obtain rfl:=oJ e3
   exact k3 _ _ ⟨(iv rfl (bE q22 (h18).bd)),_,_,(g5.trans g6),s22,h28,h29,h30,h31,h32,h33,h34,h35⟩
  obtain⟨hte2,Z7,V7,g7,s25,h49,h50,h51,h52,h53,h54,h55,h56⟩:=jd
  refine af (ao hte2 h56 (ae (ah (bc rfl (Int.lt_irrefl _) (aR (aU (aU (bT (aF (bq (az h54 rfl (aa (v:=vi (Pu.W ((i5:Int)+1))) rfl (ae ?_)))))))))))))
  obtain rfl:=oJ e2
  exact k2 _ _ ⟨(iv rfl (bE q18 ((hp1.mono (g1.trans g3).v)).bd)),_,_,(g4.trans g7),(s25.pick [0,1] rfl),h49,h50,h52,h53⟩
 obtain⟨hte1,Z8,V8,g8,s26,h57,h58,h59,h60⟩:=jd
 refine af (ao hte1 h60 (ae (ah (bc rfl (Int.lt_irrefl _) (aR (aU (aU (bT (ah (af (aa h58 (aD rfl ((s26.curS (s:=sB) 1 rfl)).len (aa (v:=vi 0) rfl (ae ?_))))))))))))))
 obtain⟨x14,q33,e⟩:=oB e
 obtain⟨rfl,q35⟩:=bp q33
 obtain⟨y5,q36,e⟩:=oB e
 refine ay (aV (xs:=Pu.ran (y2.length:Int)) (fun(i9:Nat) (s27:(List (List Bool))) tm H=>tm 74=vi i9∧∃(Z9 V9:PH),Gw Z8 V8 Z9 V9∧Sat Z9 V9 H [pts b1 (.rw 0 [vi a0.Terms,vi a0.Nons,vi a0.Start,(vS d1 a0.Rules)]),It.sl sB w1 s27]∧tm 1=(pV b1 0)∧tm 5=w1∧tm 73=(vN y2)) (fun i9 x13 s27 s29 tm H24 q31 q32 j4 e5 k6=>?_) (fun tm H23 jd=>?_) q36 ⟨rfl,_,_,Gw.refl _ _,s26,h57,h58,rfl⟩)
 ·obtain⟨hti3,Z9,V9,g9,s28,h61,h62,h63⟩:=j4
  unfold P.A9.b3 at e5
  have hti3:=iv hti3 (cD q31).symm
  refine af (ao hti3 h63 (ae (ah (be rfl (cf q31) (ar (ah (ay (af (aa hti3 (aa (v:=vi x13) rfl (ae (af (aa h62 (aD rfl ((s28.curS (s:=sB) 1 rfl)).len (aa (v:=vi 0) rfl (ae ?_))))))))))))))))
  obtain⟨x16,q39,e5⟩:=oB e5
  obtain⟨rfl,q41⟩:=bp q39
  obtain⟨y6,q42,e5⟩:=oB e5
  refine ay (aV (xs:=Pu.ran (s27.length:Int)) (fun(i10:Nat) (s30:(List (List Bool))) tm H=>tm 79=vi i10∧∃(Z10 V10:PH),Gw Z9 V9 Z10 V10∧Sat Z10 V10 H [pts b1 (.rw 0 [vi a0.Terms,vi a0.Nons,vi a0.Start,(vS d1 a0.Rules)]),It.sl sB w1 s30]∧tm 1=(pV b1 0)∧tm 5=w1∧tm 11=vi x13∧tm 73=(vN y2)∧tm 74=vi x13∧tm 78=(vN s27)) (fun i10 x15 s30 s32 tm H26 q37 q38 j5 e6 k7=>?_) (fun tm H25 jd=>?_) q42 ⟨rfl,_,_,Gw.refl _ _,s28,h61,h62,rfl,h63,hti3,rfl⟩)
  ·obtain⟨hti4,Z10,V10,g10,s31,h64,h65,h66,h67,h68,h69⟩:=j5
   unfold P.A9.b4 at e6
   have hti4:=iv hti4 (cD q37).symm
   refine af (ao hti4 h69 (ae (ah (be rfl (cf q37) (ar (ah (ay (af (aa hti4 (aa (v:=vi x15) rfl (ae (af (aa h65 (aD rfl ((s31.curS (s:=sB) 1 rfl)).len (aa (v:=vi 0) rfl (ae ?_))))))))))))))))
   obtain⟨x18,q45,e6⟩:=oB e6
   obtain⟨rfl,q47⟩:=bp q45
   obtain⟨y7,q48,e6⟩:=oB e6
   refine ay (aV (xs:=Pu.ran (s30.length:Int)) (fun(i11:Nat) (s33:(List (List Bool))) tm H=>tm 84=vi i11∧∃(Z11 V11:PH),Gw Z10 V10 Z11 V11∧Sat Z11 V11 H [pts b1 (.rw 0 [vi a0.Terms,vi a0.Nons,vi a0.Start,(vS d1 a0.Rules)]),It.sl sB w1 s33]∧tm 1=(pV b1 0)∧tm 5=w1∧tm 11=vi x13∧tm 12=vi x15∧tm 73=(vN y2)∧tm 74=vi x13∧tm 78=(vN s27)∧tm 79=vi x15∧tm 83=(vN s30)) (fun i11 x17 s33 s35 tm H28 q43 q44 j6 e7 k8=>?_) (fun tm H27 jd=>?_) q48 ⟨rfl,_,_,Gw.refl _ _,s31,h64,h65,h66,rfl,h67,h68,h69,hti4,rfl⟩)
   ·obtain⟨hti5,Z11,V11,g11,s34,h70,h71,h72,h73,h74,h75,h76,h77,h78⟩:=j6
    unfold P.A9.b5 at e7
    have hti5:=iv hti5 (cD q43).symm
    refine af (ao hti5 h78 (ae (ah (be rfl (cf q43) (ar (ah (ay (af (aa hti5 (aa (v:=vi x17) rfl (ae (aA s34 fun n2 H29 s36 q49 d5=>aj h71 (aj h73 ?_)))))))))))))
    obtain⟨x19,q50,e7⟩:=oB e7
    refine aq (v:=w1) rfl rfl (s36.curS (s:=sB) 1 rfl) rfl q50 fun p8 q51=>dt ((s36.curS 1 rfl).low pR q49) rfl (s36.curS (s:=sB) 1 rfl) pR q51 q50 fun w6 h79 h80=>aj (v:=vi x17) rfl (aj h71 (aj h73 ?_))
    obtain⟨x20,q52,e7⟩:=oB e7
    refine aq (v:=w1) rfl rfl (s36.curS (s:=sB) 1 rfl) rfl q52 fun p9 q53=>dt ((s36.curS 1 rfl).low pR q49) rfl (s36.curS (s:=sB) 1 rfl) pR q53 q52 fun w7 h81 h82=>aj (v:=vi x17) rfl ?_
    obtain⟨x21,q54,e7⟩:=oB e7
    refine aq (v:=w7) rfl rfl h81 rfl q54 fun p10 q55=>jE (RdS.low h81 pR q49) rfl h81 pR q55 q54 ?_
    have h83:=gS h81 pR q55 q54
    refine aj (v:=.bool x21) rfl ?_
    obtain⟨y8,e8,e7⟩:=oB e7
    refine dn 17 (I:=fun tm H=>DD n2 30 (List.length F.A9.r30) H∧(∃(Z12 V12:PH),Gw Z11 V11 Z12 V12∧Sat Z12 V12 H [pts b1 (.rw 0 [vi a0.Terms,vi a0.Nons,vi a0.Start,(vS d1 a0.Rules)]),It.sl sB w1 s33]∧tm 1=(pV b1 0)∧tm 5=w1∧tm 11=vi x13∧tm 12=vi x15∧tm 73=(vN y2)∧tm 74=vi x13∧tm 78=(vN s27)∧tm 79=vi x15∧tm 83=(vN s30)∧tm 84=vi x17∧tm 90=w6∧tm 91=vi x17∧tm 116=(.bool y8)∧RdS Sh.bool (Hp.ph H) w6 x19∧vload H 1 false p8=some w6)) (fun k9=>?_) ?_
    ·rcases Bool.eq_false_or_eq_true x21 with q56|q56
     ·replace e8:=ax q56 e8
      refine aw rfl q56 (aw rfl q56 (aw rfl q56 (aw rfl q56 (aw rfl q56 (aw rfl q56 (aw rfl q56 (aw rfl q56 (iz rfl (iz rfl (iz rfl (iz rfl (iz rfl (iz rfl (iz rfl (aw rfl q56 (bJ (a:=.bool true) rfl q56 rfl ?_))))))))))))))))
      obtain rfl:=oJ e8
      exact k9 _ _ _ ⟨d5.up rfl,_,_,Gw.refl _ _,s36,h70,h71,h72,h73,h74,h75,h76,h77,h78,hti5,rfl,rfl,rfl,h79,h80⟩
     replace e8:=aS q56 e8
     refine ai rfl q56 (aj h71 (ai rfl q56 (aj h73 (ai rfl q56 ?_))))
     obtain⟨x22,q57,e8⟩:=oB e8
     refine aq (v:=w1) rfl rfl (s36.curS (s:=sB) 1 rfl) rfl q57 fun p11 q58=>ai rfl q56 (dt ((s36.curS 1 rfl).low pR q49) rfl (s36.curS (s:=sB) 1 rfl) pR q58 q57 fun w8 h99 h100=>ai rfl q56 (aj h72 (ai rfl q56 ?_)))
     obtain⟨x23,q59,e8⟩:=oB e8
     refine aq (v:=w8) rfl rfl h99 rfl q59 fun p12 q60=>ai rfl q56 (jE (RdS.low h99 pR q49) rfl h99 pR q60 q59 ?_)
     have h101:=gS h99 pR q60 q59
     refine ai rfl q56 (aj (v:=.bool x23) rfl ?_)
     obtain⟨y9,e9,e8⟩:=oB e8
     refine dn 8 (I:=fun tm H=>DD n2 29 (List.length F.A9.r30) H∧(∃(Z13 V13:PH),Gw Z11 V11 Z13 V13∧Sat Z13 V13 H [pts b1 (.rw 0 [vi a0.Terms,vi a0.Nons,vi a0.Start,(vS d1 a0.Rules)]),It.sl sB w1 s33]∧tm 1=(pV b1 0)∧tm 5=w1∧tm 11=vi x13∧tm 12=vi x15∧tm 73=(vN y2)∧tm 74=vi x13∧tm 78=(vN s27)∧tm 79=vi x15∧tm 83=(vN s30)∧tm 84=vi x17∧tm 90=w6∧tm 91=vi x17∧tm 99=(.bool x21)∧tm 100=w1∧tm 101=vi x15∧tm 102=p11∧tm 103=w8∧tm 104=vi x13∧tm 105=p12∧tm 106=(.bool x23)∧tm 107=(.bool x23)∧tm 115=(.bool y9)∧RdS Sh.bool (Hp.ph H) w6 x19∧vload H 1 false p8=some w6∧RdS Sh.bool (Hp.ph H) w8 x22∧vload H 1 false p11=some w8∧RdS Sh.bool (Hp.ph H) w8 x22∧vload H 1 false p11=some w8)) (fun k10=>?_) ?_
     ·rcases Bool.eq_false_or_eq_true x23 with q61|q61
      ·replace e9:=ax q61 e9
       refine ai rfl q61 (aj h71 (ai rfl q61 (aj h72 (ai rfl q61 ?_))))
       obtain⟨x24,q62,e9⟩:=oB e9
       refine aq (v:=w1) rfl rfl (s36.curS (s:=sB) 1 rfl) rfl q62 fun p13 q63=>ai rfl q61 (dt ((s36.curS 1 rfl).low pR q49) rfl (s36.curS (s:=sB) 1 rfl) pR q63 q62 fun w9 h130 h131=>ai rfl q61 (aj (v:=vi x17) rfl (ai rfl q61 ?_)))
       obtain⟨x25,q64,e9⟩:=oB e9
       refine aq (v:=w9) rfl rfl h130 rfl q64 fun p14 q65=>ai rfl q61 (jE (RdS.low h130 pR q49) rfl h130 pR q65 q64 ?_)
       have h132:=gS h130 pR q65 q64
       refine ai rfl q56 (bJ (a:=.bool x25) rfl q61 rfl ?_)
       obtain rfl:=oJ e9
       exact k10 _ _ _ ⟨d5.up rfl,_,_,Gw.refl _ _,s36,h70,h71,h72,h73,h74,h75,h76,h77,h78,hti5,rfl,rfl,rfl,rfl,rfl,rfl,rfl,rfl,rfl,rfl,rfl,rfl,h79,h80,h99,h100,h99,h100⟩
      replace e9:=aS q61 e9
      refine aw rfl q61 (aw rfl q61 (aw rfl q61 (aw rfl q61 (aw rfl q61 (aw rfl q61 (aw rfl q61 (ai rfl q56 (bI (b:=.bool false) rfl q61 rfl ?_))))))))
      obtain rfl:=oJ e9
      exact k10 _ _ _ ⟨d5.up rfl,_,_,Gw.refl _ _,s36,h70,h71,h72,h73,h74,h75,h76,h77,h78,hti5,rfl,rfl,rfl,rfl,rfl,rfl,rfl,rfl,rfl,rfl,rfl,rfl,h79,h80,h99,h100,h99,h100⟩
     intro _ H31 _ i12
     obtain⟨d6,Z13,V13,g13,s38,h108,h109,h110,h111,h112,h113,h114,h115,h116,h117,h118,h119,h120,h121,h122,h123,h124,h125,h126,h127,h128,h129,h102,h103,h104,h105,h106,h107⟩:=i12
     refine bI (b:=.bool y9) h120 q56 h129 ?_
     obtain rfl:=oJ e8
     exact k9 _ _ _ ⟨d6.up rfl,_,_,g13,s38,h108,h109,h110,h111,h112,h113,h114,h115,h116,h117,h118,h119,rfl,h102,h103⟩
    intro _ H30 _ i13
    obtain⟨d7,Z12,V12,g12,s37,h86,h87,h88,h89,h90,h91,h92,h93,h94,h95,h96,h97,h98,h84,h85⟩:=i13
    obtain⟨x26,q66,e7⟩:=oB e7
    refine aq (v:=w6) h96 h97 h84 rfl q66 fun p15 q67=>kf 1 s37 rfl Sh.G5 rfl rfl h98 q51 q50 h85 q67 q66 rfl rfl fun H32 s39 k11=>?_
    have d8:=d7.keep k11
    refine aQ aK (aF (bq (az h95 rfl (aa (v:=vi (Pu.W (x17+1))) rfl (ae ?_)))))
    obtain rfl:=oJ e7
    exact k8 _ _ ⟨(iv rfl (bU q43 q47)),_,_,(g11.trans g12),s39,h86,h87,h88,h89,h90,h91,h92,h93,h94⟩
   obtain⟨hte5,Z14,V14,g14,s40,h133,h134,h135,h136,h137,h138,h139,h140,h141⟩:=jd
   refine af (ao hte5 h141 (ae (ah (bc rfl (bA _) (aR (aU (aU (bT (aF (bq (az h140 rfl (aa (v:=vi (Pu.W (x15+1))) rfl (ae ?_)))))))))))))
   obtain rfl:=oJ e6
   exact k7 _ _ ⟨(iv rfl (bU q37 q41)),_,_,(g10.trans g14),s40,h133,h134,h135,h137,h138,h139⟩
  obtain⟨hte4,Z15,V15,g15,s41,h142,h143,h144,h145,h146,h147⟩:=jd
  refine af (ao hte4 h147 (ae (ah (bc rfl (bA _) (aR (aU (aU (bT (aF (bq (az h146 rfl (aa (v:=vi (Pu.W (x13+1))) rfl (ae ?_)))))))))))))
  obtain rfl:=oJ e5
  exact k6 _ _ ⟨(iv rfl (bU q31 q35)),_,_,(g9.trans g15),s41,h142,h143,h145⟩
 obtain⟨hte3,Z16,V16,g16,s42,h148,h149,h150⟩:=jd
 refine af (ao hte3 h150 (ae (ah (bc rfl (bA _) (aR (aU (aU (bT (af (aa (v:=.slice none 0 0) rfl (ae (af (am h148 (ak 0 s42 rfl rfl rfl rfl ?_))))))))))))))
 obtain⟨x27,q68,e⟩:=oB e
 refine io (s:=Sh.bool) s42 Sh.G5 rfl rfl rfl rfl q68 fun w10 H36 s43=>aa (v:=w10) rfl (ae (ah (af (aa h149 (aD rfl ((s43.curS (s:=sB) 2 rfl)).len (aa (v:=vi 0) rfl (ae ?_)))))))
 obtain⟨x29,q71,e⟩:=oB e
 obtain⟨rfl,q73⟩:=bp q71
 obtain⟨y10,q74,e⟩:=oB e
 refine ay (aV (xs:=Pu.ran (y5.length:Int)) (fun(i14:Nat) (s44:((List Ty.B6)×(List Bool))) tm H=>tm 126=vi i14∧∃(Z17 V17:PH) (w11:Value),Gw Z16 V16 Z17 V17∧Sat Z17 V17 H [pts b1 (.rw 0 [vi a0.Terms,vi a0.Nons,vi a0.Start,(vS d1 a0.Rules)]),It.sl sB w1 y5,It.sl (Sh.ro Sh.B6) w11 s44.1,It.sl Sh.bool w10 s44.2]∧tm 1=(pV b1 0)∧tm 5=w1∧tm 14=w11∧tm 15=w10∧tm 125=(vN y5)) (fun i14 x28 s44 s46 tm H38 q69 q70 j7 e10 k12=>?_) (fun tm H37 jd=>?_) q74 ⟨rfl,_,_,_,Gw.refl _ _,((s43.push (aW (s:=Sh.ro Sh.B6))).pick [2,3,0,1] rfl),h148,h149,rfl,rfl,rfl⟩)
 ·obtain⟨hti6,Z17,V17,w11,g17,s45,h151,h152,h153,h154,h155⟩:=j7
  unfold P.A9.b6 at e10
  have hti6:=iv hti6 (cD q69).symm
  refine af (ao hti6 h155 (ae (ah (be rfl (cf q69) (ar (ah (ay (af (aa hti6 (aa (v:=vi x28) rfl (ae (ah (af (aa h154 (aa (v:=vi x28) rfl ?_)))))))))))))))
  obtain⟨x30,q75,e10⟩:=oB e10
  refine aJ (v:=w10) rfl rfl (s45.curS (s:=Sh.bool) 3 rfl) rfl q75 fun p16 q76=>gx rfl (s45.curS (s:=Sh.bool) 3 rfl) pR q76 q75 (ae (bx rfl (fun q77=>?_) (fun q77=>?_)))
  ·replace e10:=ax q77 e10
   refine aR (aU (bT (bq (az hti6 rfl (aa (v:=vi (Pu.W (x28+1))) rfl (ae ?_))))))
   obtain rfl:=oJ e10
   exact k12 _ _ ⟨(iv rfl (bU q69 q73)),_,_,_,g17,s45,h151,h152,h153,h154,h155⟩
  replace e10:=aS q77 e10
  refine ar (af (bR (qs:=[]) rfl rfl (bv s45 fun b4 H39 s47=>aP (us':=[vi 0,(.slice none 0 0)]) 0 s47 rfl rfl rfl rfl rfl rfl rfl fun H40 s48=>ae (ah (af (aa h152 (aD rfl ((s48.curS (s:=sB) 2 rfl)).len (aa (v:=vi 0) rfl (ae (ap (P:=fun tm=>tm 1=(pV b1 0)∧tm 5=w1∧tm 14=w11∧tm 15=w10∧tm 16=vi x28∧tm 17=(pV b4 0)∧tm 125=(vN y5)∧tm 126=vi x28∧tm 135=(vN y5)∧tm 136=vi 0∧True) ⟨h151,h152,h153,h154,rfl,rfl,h155,hti6,rfl,rfl,trivial⟩ ?_))))))))))
  intro _ i15
  obtain⟨h156,h157,h158,h159,h160,h161,h162,h163,h164,h165,-⟩:=i15
  obtain⟨x32,q80,e10⟩:=oB e10
  obtain⟨rfl,q82⟩:=bp q80
  obtain⟨y11,q83,e10⟩:=oB e10
  refine ay (aV (xs:=Pu.ran (y5.length:Int)) (fun(i16:Nat) (s49:((List Bool)×(List Int))) tm H=>tm 136=vi i16∧∃(Z18 V18:PH) (w12:Value),Gw Z17 V17 Z18 V18∧Sat Z18 V18 H [pts b1 (.rw 0 [vi a0.Terms,vi a0.Nons,vi a0.Start,(vS d1 a0.Rules)]),It.sl sB w1 y5,It.sl (Sh.ro Sh.B6) w11 s44.1,It.sl Sh.bool w10 s49.1,pts b4 (.rw 0 [vi 0,w12]),It.sl Sh.int w12 s49.2]∧tm 1=(pV b1 0)∧tm 5=w1∧tm 14=w11∧tm 15=w10∧tm 16=vi x28∧tm 17=(pV b4 0)∧tm 125=(vN y5)∧tm 126=vi x28∧tm 135=(vN y5)) (fun i16 x31 s49 s51 tm H42 q78 q79 j8 e11 k13=>?_) (fun tm H41 jd=>?_) q83 ⟨h165,_,_,_,Gw.refl _ _,((s48.push (aW (s:=Sh.int))).pick [2,3,4,5,1,0] rfl),h156,h157,h158,h159,h160,h161,h162,h163,h164⟩)
  ·obtain⟨hti7,Z18,V18,w12,g18,s50,h166,h167,h168,h169,h170,h171,h172,h173,h174⟩:=j8
   unfold P.A9.b7 at e11
   have hti7:=iv hti7 (cD q78).symm
   refine af (ao hti7 h174 (ae (ah (be rfl (cf q78) (ar (ah (ay (af (aa hti7 (aa (v:=vi x31) rfl (ae (af (aa h167 (aa h170 ?_))))))))))))))
   obtain⟨x33,q84,e11⟩:=oB e11
   refine aJ (v:=w1) rfl rfl (s50.curS (s:=sB) 1 rfl) rfl q84 fun p17 q85=>fT rfl (s50.curS (s:=sB) 1 rfl) pR q85 q84 fun w13 h175 h176=>aa (v:=vi x31) rfl ?_
   obtain⟨x34,q86,e11⟩:=oB e11
   refine aJ (v:=w13) rfl rfl h175 rfl q86 fun p18 q87=>gx rfl h175 pR q87 q86 (aa (v:=.bool x34) rfl ?_)
   obtain⟨y12,e12,e11⟩:=oB e11
   refine cv 8 (I:=fun tm H=>∃(Z19 V19:PH),Gw Z18 V18 Z19 V19∧Sat Z19 V19 H [pts b1 (.rw 0 [vi a0.Terms,vi a0.Nons,vi a0.Start,(vS d1 a0.Rules)]),It.sl sB w1 y5,It.sl (Sh.ro Sh.B6) w11 s44.1,It.sl Sh.bool w10 s49.1,pts b4 (.rw 0 [vi 0,w12]),It.sl Sh.int w12 s49.2]∧tm 1=(pV b1 0)∧tm 5=w1∧tm 14=w11∧tm 15=w10∧tm 16=vi x28∧tm 17=(pV b4 0)∧tm 18=vi x31∧tm 125=(vN y5)∧tm 126=vi x28∧tm 135=(vN y5)∧tm 136=vi x31∧tm 154=(.bool y12)) (fun k14=>?_) ?_
   ·rcases Bool.eq_false_or_eq_true x34 with q88|q88
    ·replace e12:=ax q88 e12
     refine aC rfl q88 (aa h167 (aC rfl q88 (aa (v:=vi x31) rfl (aC rfl q88 ?_))))
     obtain⟨x35,q89,e12⟩:=oB e12
     refine aJ (v:=w1) rfl rfl (s50.curS (s:=sB) 1 rfl) rfl q89 fun p19 q90=>aC rfl q88 (fT rfl (s50.curS (s:=sB) 1 rfl) pR q90 q89 fun w14 h189 h190=>aC rfl q88 (aa h170 (aC rfl q88 ?_)))
     obtain⟨x36,q91,e12⟩:=oB e12
     refine aJ (v:=w14) rfl rfl h189 rfl q91 fun p20 q92=>aC rfl q88 (gx rfl h189 pR q92 q91 (aY (a:=.bool x36) rfl q88 rfl ?_))
     obtain rfl:=oJ e12
     exact k14 _ _ ⟨_,_,Gw.refl _ _,s50,h166,h167,h168,h169,h170,h171,rfl,h172,h173,h174,hti7,rfl⟩
    replace e12:=aS q88 e12
    refine aE rfl q88 (aE rfl q88 (aE rfl q88 (aE rfl q88 (aE rfl q88 (aE rfl q88 (aE rfl q88 (aX (b:=.bool false) rfl q88 rfl ?_)))))))
    obtain rfl:=oJ e12
    exact k14 _ _ ⟨_,_,Gw.refl _ _,s50,h166,h167,h168,h169,h170,h171,rfl,h172,h173,h174,hti7,rfl⟩
   intro _ H43 i17
   obtain⟨Z19,V19,g19,s52,h177,h178,h179,h180,h181,h182,h183,h184,h185,h186,h187,h188⟩:=i17
   refine ae ?_
   obtain⟨y13,e13,e11⟩:=oB e11
   refine bf (I:=fun tm H=>∃(Z20 V20:PH) (w15:Value),Gw Z19 V19 Z20 V20∧Sat Z20 V20 H [pts b1 (.rw 0 [vi a0.Terms,vi a0.Nons,vi a0.Start,(vS d1 a0.Rules)]),It.sl sB w1 y5,It.sl (Sh.ro Sh.B6) w11 s44.1,It.sl Sh.bool w10 y13.1,pts b4 (.rw 0 [vi 0,w15]),It.sl Sh.int w15 y13.2]∧tm 1=(pV b1 0)∧tm 5=w1∧tm 14=w11∧tm 15=w10∧tm 16=vi x28∧tm 17=(pV b4 0)∧tm 125=(vN y5)∧tm 126=vi x28∧tm 135=(vN y5)∧tm 136=vi x31) (fun k15=>?_) ?_
   ·refine bx h188 (fun q93=>?_) (fun q93=>?_)
    ·replace e13:=ax q93 e13
     refine af (am h182 ?_)
     obtain⟨d9,rfl⟩:=((s52.curS (s:=Sh.int) 5 rfl)).val
     refine ak 4 s52 rfl rfl rfl rfl (aa h183 (bP (s:=Sh.int) (us:=[vi x31]) (qs:=[(0,1,(vi x31))]) (xs:=[x31]) s52 Sh.G5 rfl rfl rfl (Els.cons (c:=[vi x31]) rfl Els.nil) rfl rfl fun w16 H45 s54=>?_))
     obtain⟨x37,q94,e13⟩:=oB e13
     refine cn 6 s54 rfl Sh.G5 rfl rfl rfl rfl (s54.curS (s:=Sh.int) 0 rfl) pR (fun h=>h) (by decide) q94 fun w17 H46 s55=>am h182 ?_
     obtain⟨d10,rfl⟩:=((s55.curS (s:=Sh.int) 6 rfl)).val
     refine aP (us':=[vi 0,(vS d10 x37)]) 5 s55 rfl rfl rfl rfl rfl rfl rfl fun H47 s56=>ae (bq (aa h180 (aa h183 ?_)))
     obtain⟨x38,q95,e13⟩:=oB e13
     refine aJ (v:=w10) rfl rfl (s56.curS (s:=Sh.bool) 4 rfl) rfl q95 fun p21 q96=>jq 4 s56 rfl Sh.G5 rfl rfl rfl q96 q95 rfl rfl fun H48 s57=>ae ?_
     obtain rfl:=oJ e13
     exact k15 _ _ ⟨_,_,_,Gw.refl _ _,(s57.pick [1,2,3,4,5,6] rfl),h177,h178,h179,h180,h181,h182,h184,h185,h186,h187⟩
    replace e13:=aS q93 e13
    refine ar ?_
    obtain rfl:=oJ e13
    exact k15 _ _ ⟨_,_,_,Gw.refl _ _,s52,h177,h178,h179,h180,h181,h182,h184,h185,h186,h187⟩
   intro _ H44 i18
   obtain⟨Z20,V20,w15,g20,s53,h191,h192,h193,h194,h195,h196,h197,h198,h199,h200⟩:=i18
   refine aF (bq (az h200 rfl (aa (v:=vi (Pu.W (x31+1))) rfl (ae ?_))))
   obtain rfl:=oJ e11
   exact k13 _ _ ⟨(iv rfl (bU q78 q82)),_,_,_,(g18.trans (g19.trans g20)),s53,h191,h192,h193,h194,h195,h196,h197,h198,h199⟩
  obtain⟨hte7,Z21,V21,w18,g21,s58,h201,h202,h203,h204,h205,h206,h207,h208,h209⟩:=jd
  refine af (ao hte7 h209 (ae (ah (bc rfl (bA _) (aR (aU (aU (bT (af (ak 0 s58 rfl h201 rfl rfl (am h206 ?_)))))))))))
  obtain⟨d11,rfl⟩:=((s58.curS (s:=Sh.int) 5 rfl)).val
  refine ak 4 s58 rfl rfl rfl rfl ?_
  obtain⟨x39,q97,e10⟩:=oB e10
  obtain⟨Z22,V22,W2,g22,u2,c7,c8,-,c10,c9⟩:=Sat.call (l1:=[]) s58
  refine au (mc rfl (mc rfl m0)) (X.F3 nd.F3 c7 (hp1.mono (((g1.trans (g3.trans (g8.trans (g16.trans (g17.trans g21))))).trans g22).v.trans u2)) (c8 5 _ Sh.int _ _ rfl) q97) fun _ H50 i19=>?_
  obtain⟨rfl,s59⟩:=i19
  have s60:=c9 _ _ s59
  refine am h206 (aP (us':=[vi x39,(vS d11 y11.2)]) 4 s60 rfl rfl rfl rfl rfl rfl rfl fun H51 s61=>ae (bq (aa h203 (ak 4 s61 rfl h206 rfl rfl ?_))))
  obtain⟨Z23,V23,g23,s62,h210⟩:=s61.frzS 5 rfl
  refine bP (s:=Sh.ro Sh.B6) (us:=[vi x39,(vS d11 y11.2)]) (qs:=[(0,2,(.agg #[vi x39,(vS d11 y11.2)]))]) (xs:=[(Ty.B6.mk x39 y11.2)]) s62 (Sh.ro_lt _) rfl rfl rfl (Els.cons (c:=[vi x39,(vS d11 y11.2)]) (Sh.K8 (x:=Ty.B6.mk x39 y11.2) h210) Els.nil) rfl rfl fun w19 H52 s63=>?_
  obtain⟨Z24,V24,g24,s64,h211⟩:=s63.frzS 0 rfl
  replace h211:=h211.of_ro
  obtain⟨x40,q98,e10⟩:=oB e10
  refine cn 2 s64 rfl (Sh.ro_lt _) rfl rfl rfl rfl h211 s64.z (fun h=>h) (by decide) q98 fun w20 H53 s65=>aa (v:=w20) rfl (ae (aF (bq (az h208 rfl (aa (v:=vi (Pu.W (x28+1))) rfl (ae ?_))))))
  obtain rfl:=oJ e10
  exact k12 _ _ ⟨(iv rfl (bU q69 q73)),_,_,_,(g17.trans (g21.trans (g22.trans (g23.trans g24)))),(s65.pick [0,1,2,3] rfl),h201,h202,rfl,h204,h207⟩
 obtain⟨hte6,Z25,V25,w21,g25,s66,h212,h213,h214,h215,h216⟩:=jd
 refine af (ao hte6 h216 (ae (ah (bc rfl (bA _) (aR (aU (aU (bT (af (aa h214 (aa (v:=w21) rfl (aa (v:=vi 0) rfl (ae (aL ?_))))))))))))))
 obtain rfl:=oJ e
 exact⟨.inr rfl,_,(ar2 rfl rfl),_,rfl,((s66.pick [2] rfl).weak (g1.trans (g3.trans (g8.trans (g16.trans g25)))) hs.zv)⟩
structure Nd.E7 (T:FuncId→Option AFunc):Prop where
 own:Has T I.E7 F.E7
theorem X.E7 {T:FuncId→Option AFunc}(nd:Nd.E7 T){φ:Nat}{Z V:PH}{H:Hp}{v1:Value}{a0:Ty.E8}(hs:Sat Z V H [])(hp1:RdS Sh.E2 V v1 a0.Rules){r:(List Bool)}(e:P.E7 φ a0=some r):
 G T I.E7 [(.agg #[vi a0.Terms,vi a0.Nons,vi a0.Start,v1])] H (fun rv H'=>∃(u1:Value),rv=u1∧Sat Z V H' [It.sl Sh.bool u1 r]):=by
 unfold P.E7 at e
 refine bB nd.own (af ?_)
 obtain⟨d1,rfl⟩:=(hp1).val
 refine cx hs rfl rfl fun b1 H1 s1=>aa (v:=.slice none 0 0) rfl (ae (af (am rfl (ak 0 s1 rfl rfl rfl rfl ?_))))
 obtain⟨x1,q1,e⟩:=oB e
 refine io (s:=Sh.bool) s1 Sh.G5 rfl rfl rfl rfl q1 fun w1 H2 s2=>aa (v:=w1) rfl (ae (af (aa (v:=w1) rfl (am rfl (ak 1 s2 rfl rfl rfl rfl ?_)))))
 obtain⟨x2,q2,e⟩:=oB e
 refine aJ (v:=w1) rfl rfl (s2.curS (s:=Sh.bool) 0 rfl) rfl q2 fun p1 q3=>jq 0 s2 rfl Sh.G5 rfl rfl rfl q3 q2 rfl rfl fun H3 s3=>ae (ap (P:=fun tm=>tm 1=(pV b1 0)∧tm 3=w1∧True) ⟨rfl,rfl,trivial⟩ ?_)
 intro _ i1
 obtain⟨h1,h2,-⟩:=i1
 refine ah (af (aa (v:=.bool true) rfl (ae ?_)))
 obtain⟨y1,q6,e⟩:=oB e
 refine bf (I:=fun tm H=>∃(s6:((List Bool)×Bool)),y1= .out s6∧(∃(Z2 V2:PH),Gw Z V Z2 V2∧Sat Z2 V2 H [pts b1 (.rw 0 [vi a0.Terms,vi a0.Nons,vi a0.Start,(vS d1 a0.Rules)]),It.sl Sh.bool w1 s6.1]∧tm 1=(pV b1 0)∧tm 3=w1∧tm 4=(.bool s6.2))) (fun k4=>?_) ?_
 ·refine ay (cc (fun(s4:((List Bool)×Bool)) tm H=>∃(Z1 V1:PH),Gw Z V Z1 V1∧Sat Z1 V1 H [pts b1 (.rw 0 [vi a0.Terms,vi a0.Nons,vi a0.Start,(vS d1 a0.Rules)]),It.sl Sh.bool w1 s4.1]∧tm 1=(pV b1 0)∧tm 3=w1∧tm 4=(.bool s4.2)) (fun s4 y2 tm H5 j1 e1 k1 k2 k3=>?_) q6 ⟨_,_,Gw.refl _ _,(s3.pick [1,0] rfl),h1,h2,rfl⟩)
  obtain⟨Z1,V1,g1,s5,h3,h4,h5⟩:=j1
  unfold P.E7.b0 at e1
  refine ah (af (aa h5 (ae (bx rfl (fun q7=>?_) (fun q7=>?_)))))
  ·replace e1:=ax q7 e1
   refine ar (ay (af (aa (v:=.bool false) rfl (ae (af (am h3 (ak 0 s5 rfl rfl rfl rfl (aD rfl ((hp1.mono g1.v)).len (aa (v:=vi 0) rfl (ae ?_))))))))))
   obtain⟨y3,q10,e1⟩:=oB e1
   refine ay (aV (xs:=a0.Rules) (fun(i3:Nat) (s8:((List Bool)×Bool)) tm H=>tm 20=vi i3∧∃(Z3 V3:PH),Gw Z1 V1 Z3 V3∧Sat Z3 V3 H [pts b1 (.rw 0 [vi a0.Terms,vi a0.Nons,vi a0.Start,(vS d1 a0.Rules)]),It.sl Sh.bool w1 s8.1]∧tm 1=(pV b1 0)∧tm 3=w1∧tm 4=(.bool s8.2)∧tm 18=(vS d1 a0.Rules)∧tm 19=(vN a0.Rules)) (fun i3 x4 s8 s10 tm H8 q8 q9 j2 e2 k5=>?_) (fun tm H7 jd=>?_) q10 ⟨rfl,_,_,Gw.refl _ _,s5,h3,h4,rfl,rfl,rfl⟩)
   ·obtain⟨hti1,Z3,V3,g3,s9,h9,h10,h11,h12,h13⟩:=j2
    unfold P.E7.b1 at e2
    refine af (ao hti1 h13 (ae (ah (be rfl (Int.ofNat_lt.2 q9) (ar (ah (ay (af (aJ (v:=vS d1 a0.Rules) h12 hti1 (hp1.mono (g1.trans g3).v) rfl (Pu.ix_nat.trans q8) fun p2 q11=>cO rfl (hp1.mono (g1.trans g3).v) s9.v rfl q11 (Pu.ix_nat.trans q8) fun c1 h14=>?_)))))))))
    obtain⟨w2,rfl,h15⟩:=Sh.K7 h14
    refine bv s9 fun b2 H9 s11=>?_
    obtain⟨d2,rfl⟩:=(h15).val
    refine aP (us':=[vi x4.Left,(vS d2 x4.Right)]) 0 s11 rfl rfl rfl rfl rfl rfl rfl fun H10 s12=>ae (af (am rfl (ak 0 s12 rfl rfl rfl rfl (aD rfl (h15).len (aa (v:=vi 0) rfl (ae ?_))))))
    obtain⟨y4,q14,e2⟩:=oB e2
    refine ay (aV (xs:=x4.Right) (fun(i4:Nat) (s13:((List Bool)×Bool)) tm H=>tm 27=vi i4∧∃(Z4 V4:PH),Gw Z3 V3 Z4 V4∧Sat Z4 V4 H [pts b1 (.rw 0 [vi a0.Terms,vi a0.Nons,vi a0.Start,(vS d1 a0.Rules)]),It.sl Sh.bool w1 s13.1,pts b2 (.rw 0 [vi x4.Left,(vS d2 x4.Right)])]∧tm 1=(pV b1 0)∧tm 3=w1∧tm 4=(.bool s13.2)∧tm 6=(pV b2 0)∧tm 18=(vS d1 a0.Rules)∧tm 19=(vN a0.Rules)∧tm 20=(vJ i3)∧tm 25=(vS d2 x4.Right)∧tm 26=(vN x4.Right)) (fun i4 x5 s13 s15 tm H12 q12 q13 j3 e3 k6=>?_) (fun tm H11 jd=>?_) q14 ⟨rfl,_,_,Gw.refl _ _,(s12.pick [1,2,0] rfl),h9,h10,h11,rfl,h12,h13,hti1,rfl,rfl⟩)
    ·obtain⟨hti2,Z4,V4,g4,s14,h16,h17,h18,h19,h20,h21,h22,h23,h24⟩:=j3
     unfold P.E7.b2 at e3
     refine af (ao hti2 h24 (ae (ah (be rfl (Int.ofNat_lt.2 q13) (ar (ah (ay (af (aJ (v:=vS d2 x4.Right) h23 hti2 (h15.mono g4.v) rfl (Pu.ix_nat.trans q12) fun p3 q15=>cO rfl (h15.mono g4.v) s14.v rfl q15 (Pu.ix_nat.trans q12) fun c2 h25=>?_)))))))))
     obtain rfl:=h25
     refine bv s14 fun b3 H13 s16=>aP (us':=[(.bool x5.Term),vi x5.N]) 0 s16 rfl rfl rfl rfl rfl rfl rfl fun H14 s17=>ae (af (aa h17 (am h19 (ak 3 s17 rfl rfl rfl rfl ?_))))
     obtain⟨x6,q16,e3⟩:=oB e3
     refine aJ (v:=w1) rfl rfl (s17.curS (s:=Sh.bool) 2 rfl) rfl q16 fun p4 q17=>gx rfl (s17.curS (s:=Sh.bool) 2 rfl) pR q17 q16 (aa (v:=.bool x6) rfl (cv 4 (I:=fun tm H=>tm 40= .bool (x6&&(!x5.Term))∧(∃(Z5 V5:PH),Gw Z4 V4 Z5 V5∧Sat Z5 V5 H [pts b1 (.rw 0 [vi a0.Terms,vi a0.Nons,vi a0.Start,(vS d1 a0.Rules)]),It.sl Sh.bool w1 s13.1,pts b2 (.rw 0 [vi x4.Left,(vS d2 x4.Right)]),pts b3 (.rw 0 [(.bool x5.Term),vi x5.N])]∧tm 1=(pV b1 0)∧tm 3=w1∧tm 4=(.bool s13.2)∧tm 6=(pV b2 0)∧tm 8=(pV b3 0)∧tm 18=(vS d1 a0.Rules)∧tm 19=(vN a0.Rules)∧tm 20=(vJ i3)∧tm 25=(vS d2 x4.Right)∧tm 26=(vN x4.Right)∧tm 27=(vJ i4))) (fun k7=>?_) ?_))
     ·rcases Bool.eq_false_or_eq_true x6 with q18|q18
      ·refine aC rfl q18 (am rfl (aC rfl q18 (ak 0 s17 rfl rfl rfl rfl (aC rfl q18 (cy rfl (aY (a:=.bool (!x5.Term)) rfl q18 rfl ?_))))))
       exact k7 _ _ ⟨gf rfl (by first|(rw [q18];first|done|rfl)|simp [q18]),_,_,Gw.refl _ _,(s17.pick [1,2,3,0] rfl),h16,h17,h18,h19,rfl,h20,h21,h22,h23,h24,hti2⟩
      refine aE rfl q18 (aE rfl q18 (aE rfl q18 (aX (b:=.bool false) rfl q18 rfl ?_)))
      exact k7 _ _ ⟨gf rfl (by first|(rw [q18];first|done|rfl)|simp [q18]),_,_,Gw.refl _ _,(s17.pick [1,2,3,0] rfl),h16,h17,h18,h19,rfl,h20,h21,h22,h23,h24,hti2⟩
     intro _ H15 i5
     obtain⟨h37,Z5,V5,g5,s18,h26,h27,h28,h29,h30,h31,h32,h33,h34,h35,h36⟩:=i5
     refine aa h37 ?_
     obtain⟨y5,e4,e3⟩:=oB e3
     refine cv 7 (I:=fun tm H=>∃(Z6 V6:PH),Gw Z5 V5 Z6 V6∧Sat Z6 V6 H [pts b1 (.rw 0 [vi a0.Terms,vi a0.Nons,vi a0.Start,(vS d1 a0.Rules)]),It.sl Sh.bool w1 s13.1,pts b2 (.rw 0 [vi x4.Left,(vS d2 x4.Right)]),pts b3 (.rw 0 [(.bool x5.Term),vi x5.N])]∧tm 1=(pV b1 0)∧tm 3=w1∧tm 4=(.bool s13.2)∧tm 6=(pV b2 0)∧tm 8=(pV b3 0)∧tm 18=(vS d1 a0.Rules)∧tm 19=(vN a0.Rules)∧tm 20=(vJ i3)∧tm 25=(vS d2 x4.Right)∧tm 26=(vN x4.Right)∧tm 27=(vJ i4)∧tm 48=(.bool y5)) (fun k8=>?_) ?_
     ·rcases Bool.eq_false_or_eq_true (x6&&(!x5.Term)) with q19|q19
      ·replace e4:=ax q19 e4
       refine aC rfl q19 (aa h27 (aC rfl q19 (am h30 (aC rfl q19 (ak 3 s18 rfl rfl rfl rfl (aC rfl q19 ?_))))))
       obtain⟨x7,q20,e4⟩:=oB e4
       refine aJ (v:=w1) rfl rfl (s18.curS (s:=Sh.bool) 1 rfl) rfl q20 fun p5 q21=>aC rfl q19 (gx rfl (s18.curS (s:=Sh.bool) 1 rfl) pR q21 q20 (aC rfl q19 (cy rfl (aY (a:=.bool (!x7)) rfl q19 rfl ?_))))
       obtain rfl:=oJ e4
       exact k8 _ _ ⟨_,_,Gw.refl _ _,s18,h26,h27,h28,h29,h30,h31,h32,h33,h34,h35,h36,rfl⟩
      replace e4:=aS q19 e4
      refine aE rfl q19 (aE rfl q19 (aE rfl q19 (aE rfl q19 (aE rfl q19 (aE rfl q19 (aX (b:=.bool false) rfl q19 rfl ?_))))))
      obtain rfl:=oJ e4
      exact k8 _ _ ⟨_,_,Gw.refl _ _,s18,h26,h27,h28,h29,h30,h31,h32,h33,h34,h35,h36,rfl⟩
     intro _ H16 i6
     obtain⟨Z6,V6,g6,s19,h38,h39,h40,h41,h42,h43,h44,h45,h46,h47,h48,h49⟩:=i6
     refine ae ?_
     obtain⟨y6,e5,e3⟩:=oB e3
     refine bf (I:=fun tm H=>∃(Z7 V7:PH),Gw Z6 V6 Z7 V7∧Sat Z7 V7 H [pts b1 (.rw 0 [vi a0.Terms,vi a0.Nons,vi a0.Start,(vS d1 a0.Rules)]),It.sl Sh.bool w1 y6.1,pts b2 (.rw 0 [vi x4.Left,(vS d2 x4.Right)])]∧tm 1=(pV b1 0)∧tm 3=w1∧tm 4=(.bool y6.2)∧tm 6=(pV b2 0)∧tm 18=(vS d1 a0.Rules)∧tm 19=(vN a0.Rules)∧tm 20=(vJ i3)∧tm 25=(vS d2 x4.Right)∧tm 26=(vN x4.Right)∧tm 27=(vJ i4)) (fun k9=>?_) ?_
     ·refine bx h49 (fun q22=>?_) (fun q22=>?_)
      ·replace e5:=ax q22 e5
       refine bq (aa h39 (am h42 (ak 3 s19 rfl rfl rfl rfl ?_)))
       obtain⟨x8,q23,e5⟩:=oB e5
       refine aJ (v:=w1) rfl rfl (s19.curS (s:=Sh.bool) 1 rfl) rfl q23 fun p6 q24=>jq 1 s19 rfl Sh.G5 rfl rfl rfl q24 q23 rfl rfl fun H18 s21=>aa (v:=.bool true) rfl (ae ?_)
       obtain rfl:=oJ e5
       exact k9 _ _ ⟨_,_,Gw.refl _ _,(s21.pick [0,1,2] rfl),h38,h39,rfl,h41,h43,h44,h45,h46,h47,h48⟩
      replace e5:=aS q22 e5
      refine ar ?_
      obtain rfl:=oJ e5
      exact k9 _ _ ⟨_,_,Gw.refl _ _,(s19.pick [0,1,2] rfl),h38,h39,h40,h41,h43,h44,h45,h46,h47,h48⟩
     intro _ H17 i7
     obtain⟨Z7,V7,g7,s20,h50,h51,h52,h53,h54,h55,h56,h57,h58,h59⟩:=i7
     refine aF (bq (az h59 rfl (aa (v:=vi (Pu.W ((i4:Int)+1))) rfl (ae ?_))))
     obtain rfl:=oJ e3
     exact k6 _ _ ⟨(iv rfl (bE q13 (h15).bd)),_,_,(g4.trans (g5.trans (g6.trans g7))),s20,h50,h51,h52,h53,h54,h55,h56,h57,h58⟩
    obtain⟨hte2,Z8,V8,g8,s22,h60,h61,h62,h63,h64,h65,h66,h67,h68⟩:=jd
    refine af (ao hte2 h68 (ae (ah (bc rfl (Int.lt_irrefl _) (aR (aU (aU (bT (aF (bq (az h66 rfl (aa (v:=vi (Pu.W ((i3:Int)+1))) rfl (ae ?_)))))))))))))
    obtain rfl:=oJ e2
    exact k5 _ _ ⟨(iv rfl (bE q9 ((hp1.mono g1.v)).bd)),_,_,(g3.trans g8),(s22.pick [0,1] rfl),h60,h61,h62,h64,h65⟩
   obtain⟨hte1,Z9,V9,g9,s23,h69,h70,h71,h72,h73⟩:=jd
   refine af (ao hte1 h73 (ae (ah (bc rfl (Int.lt_irrefl _) (aR (aU (aU (bT (aF ?_)))))))))
   exact k1 _ _ _ (sJ e1) ⟨_,_,(g1.trans g9),s23,h69,h70,h71⟩
  replace e1:=aS q7 e1
  refine aR (aU (aU (bT ?_)))
  exact k4 _ _ ⟨_,k2 _ (sJ e1),_,_,g1,s5,h3,h4,h5⟩
 intro _ H6 i8
 obtain⟨s6,f1,Z2,V2,g2,s7,h6,h7,h8⟩:=i8
 replace e:=bD f1 e
 refine af (aa h7 (aa (v:=w1) rfl (ae (aL ?_))))
 obtain rfl:=oJ e
 exact⟨.inr rfl,_,(ar1 rfl),_,rfl,((s7.pick [1] rfl).weak g2 hs.zv)⟩
structure Nd.F6 (T:FuncId→Option AFunc):Prop where
 own:Has T I.F6 F.F6
theorem X.F6 (nd:Nd.F6 T){v1:Value}{v2:Value}{v3:Value}{o1:Nat}{a0:Ty.G3}(hs:Sat Z V H [pts o1 (.rw 0 [vi a0.g.Terms,vi a0.g.Nons,vi a0.g.Start,v1,v2,v3]),It.sl (Sh.sl Sh.C9) v3 a0.next_])(hp1:RdS Sh.E2 Z v1 a0.g.Rules)(hp2:RdS Sh.B6 Z v2 a0.of_){r:(Ty.G3×Int)}(e:P.F6 a0=some r):
 G T I.F6 [(pV o1 0)] H (fun rv H'=>∃(u1:Value) (u2:Value) (u3:Value),rv=vi r.2∧Sat Z V H' [pts o1 (.rw 0 [vi r.1.g.Terms,vi r.1.g.Nons,vi r.1.g.Start,u1,u2,u3]),Sh.it (Sh.ro (Sh.sl Sh.E2)) [u1] r.1.g.Rules,Sh.it (Sh.ro (Sh.sl Sh.B6)) [u2] r.1.of_,It.sl (Sh.sl Sh.C9) u3 r.1.next_]):=by
 unfold P.F6 at e
 refine bB nd.own (af (aa (v:=vi 0) rfl (ae (af (aa (v:=pV o1 0) rfl (aa (v:=pV o1 0) rfl (bS rfl (am rfl ?_))))))))
 obtain⟨d1,rfl⟩:=(hp1).val
 obtain⟨d2,rfl⟩:=(hp2).val
 obtain⟨d3,rfl⟩:=((hs.curS (s:=Sh.sl Sh.C9) 1 rfl)).val
 refine ak 0 hs rfl rfl rfl rfl ?_
 have s1:=hs.push (aW (s:=Sh.C9))
 refine gI s1 rfl fun w1 H1 s2=>?_
 obtain⟨x1,q1,e⟩:=oB e
 refine gH 1 s2 rfl rfl rfl (by decide) q1 (List.cons_ne_nil _ _) fun w2 H2 s3=>bS rfl (am rfl ?_)
 obtain⟨d4,rfl⟩:=((s3.curS (s:=Sh.sl Sh.C9) 1 rfl)).val
 refine aP (us':=[vi a0.g.Terms,vi a0.g.Nons,vi a0.g.Start,(vS d1 a0.g.Rules),(vS d2 a0.of_),(vS d4 x1)]) 0 s3 rfl rfl rfl rfl rfl rfl rfl fun H3 s4=>ae (ap (P:=fun tm=>tm 0=(pV o1 0)∧True) ⟨rfl,trivial⟩ ?_)
 intro _ i1
 obtain⟨h1,-⟩:=i1
 refine af (aa h1 (bS rfl (am rfl (ak 0 s4 rfl rfl rfl rfl (aD rfl ((s4.curS (s:=Sh.sl Sh.C9) 1 rfl)).len (bz rfl rfl (aa (v:=vi (Pu.W ((x1.length:Int)-1))) rfl (ae (aL ?_)))))))))
 obtain rfl:=oJ e
 exact⟨.inr rfl,_,(ar1 rfl),_,_,_,rfl,(((s4.push (dD (cR hp1))).push (dD (cR hp2))).pick [2,1,0,3] rfl)⟩
structure Nd.F8 (T:FuncId→Option AFunc):Prop where
 own:Has T I.F8 F.F8
theorem X.F8 (nd:Nd.F8 T){v1:Value}{v2:Value}{v3:Value}{o1:Nat}{a0:Ty.G3}{a1:Int}{a2:Int}{a3:Int}(hs:Sat Z V H [pts o1 (.rw 0 [vi a0.g.Terms,vi a0.g.Nons,vi a0.g.Start,v1,v2,v3]),It.sl (Sh.sl Sh.C9) v3 a0.next_])(hp1:RdS Sh.E2 Z v1 a0.g.Rules)(hp2:RdS Sh.B6 Z v2 a0.of_){r:Ty.G3}(e:P.F8 a0 a1 a2 a3=some r):
 G T I.F8 [(pV o1 0),vi a1,vi a2,vi a3] H (fun rv H'=>∃(u1:Value) (u2:Value) (u3:Value),rv=undef∧Sat Z V H' [pts o1 (.rw 0 [vi r.g.Terms,vi r.g.Nons,vi r.g.Start,u1,u2,u3]),Sh.it (Sh.ro (Sh.sl Sh.E2)) [u1] r.g.Rules,Sh.it (Sh.ro (Sh.sl Sh.B6)) [u2] r.of_,It.sl (Sh.sl Sh.C9) u3 r.next_]):=by
 unfold P.F8 at e
 refine bB nd.own (aA hs fun n1 H1 s1 q1 d1=>aj (v:=pV o1 0) rfl (cI rfl (bt rfl ?_)))
 obtain⟨d2,rfl⟩:=(hp1).val
 obtain⟨d3,rfl⟩:=(hp2).val
 obtain⟨d4,rfl⟩:=((s1.curS (s:=Sh.sl Sh.C9) 1 rfl)).val
 refine aZ (q1 _ _ (an.2 ⟨s1.curB 0 rfl,by simp⟩)) 0 s1 rfl rfl rfl rfl (aj (v:=vi a1) rfl (aj (v:=pV o1 0) rfl (cI rfl (bt rfl (aZ (q1 _ _ (an.2 ⟨s1.curB 0 rfl,by simp⟩)) 0 s1 rfl rfl rfl rfl (aj (v:=vi a1) rfl ?_))))))
 obtain⟨x1,q2,e⟩:=oB e
 refine aq (v:=vS d4 a0.next_) rfl rfl (s1.curS (s:=Sh.sl Sh.C9) 1 rfl) rfl q2 fun p1 q3=>iN ((s1.curS 1 rfl).low pR q1) 1 s1 rfl rfl q3 q2 fun w1 s2=>aj (v:=vi a2) rfl (aj (v:=vi a3) rfl (hJ (qs:=[(0,1,(vi a2)),(1,1,(vi a3))]) rfl rfl (fE (s:=Sh.C9) (us:=[vi a2,vi a3]) (qs:=[(0,2,(.agg #[vi a2,vi a3]))]) (xs:=[(Ty.C9.mk a2 a3)]) (d1.get 15 rfl rfl) s2 Sh.G5 rfl rfl rfl (Els.cons (c:=[vi a2,vi a3]) rfl Els.nil) rfl rfl fun w2 H2 s3 k1=>?_)))
 have d5:=d1.next 15 rfl k1
 obtain⟨x2,q4,e⟩:=oB e
 refine fD 1 s3 rfl Sh.G5 rfl rfl rfl rfl (s3.curS (s:=Sh.C9) 0 rfl) pR (fun h=>h) (by decide) q4 fun w3 H3 s4 k2=>?_
 have d6:=d5.keep k2
 obtain⟨x3,q6,e⟩:=oB e
 refine gC 3 s4 rfl rfl rfl rfl q6 fun p2 q5=>jC 3 s4 rfl rfl rfl q5 q6 (s4.curS (s:=Sh.C9) 1 rfl).one fun H4 s5 k3=>?_
 have d7:=d6.keep k3
 have s6:=Sat.unfoc 2 rfl (s5.pull 1 rfl)
 refine aQ (cV rfl (ta16 (tre (tl2 (trl tr0)))) (ta2 (tra (tre (tl16 tr0)))) (ta2 (tre (tl16 (trl tr0)))) (bZ (w:=vS d4 a0.next_) ek rfl (bG 0 s1 rfl rfl rfl) (bG 2 s3 rfl rfl rfl) (by simp [vsame,vsame1])) (bZ (w:=vS d4 a0.next_) ek rfl (bG 0 s1 rfl rfl rfl) (bG 2 s4 rfl rfl rfl) (by simp [vsame,vsame1])) aK) ?_
 obtain rfl:=oJ e
 refine dk ?_
 exact⟨.inl rfl,_,rfl,_,_,_,rfl,(((s6.push (dD (cR hp1))).push (dD (cR hp2))).pick [3,1,0,4] rfl)⟩
structure Nd.B4 (T:FuncId→Option AFunc):Prop where
 own_approx_nfa_add:Has T I.B4 F.B4
 own_approx_nfa_path:Has T I.F0 F.F0
 F6:Nd.F6 T
 F8:Nd.F8 T
 C4:Nd.C4 T
theorem X.L9 {T:FuncId→Option AFunc}(nd:Nd.B4 T):∀φ:Nat,(∀{Z V:PH} {H:Hp} {v1:Value} {v2:Value} {v3:Value} {o1:Nat} {a0:Ty.G3} {a1:Int} {a2:Int} {a3:Int} (_:Sat Z V H [pts o1 (.rw 0 [vi a0.g.Terms,vi a0.g.Nons,vi a0.g.Start,v1,v2,v3]),It.sl (Sh.sl Sh.C9) v3 a0.next_]) (_:RdS Sh.E2 Z v1 a0.g.Rules) (_:RdS Sh.B6 Z v2 a0.of_) {r:Ty.G3} (_:P.B4 φ a0 a1 a2 a3=some r),G T I.B4 [(pV o1 0),vi a1,vi a2,vi a3] H (fun rv H'=>∃(u1:Value) (u2:Value) (u3:Value),rv=undef∧Sat Z V H' [pts o1 (.rw 0 [vi r.g.Terms,vi r.g.Nons,vi r.g.Start,u1,u2,u3]),Sh.it (Sh.ro (Sh.sl Sh.E2)) [u1] r.g.Rules,Sh.it (Sh.ro (Sh.sl Sh.B6)) [u2] r.of_,It.sl (Sh.sl Sh.C9) u3 r.next_]))∧(∀{Z V:PH} {H:Hp} {v1:Value} {v2:Value} {v3:Value} {o1:Nat} {v4:Value} {a0:Ty.G3} {a1:Int} {a2:(List Ty.F2)} {a3:Int} (_:Sat Z V H [pts o1 (.rw 0 [vi a0.g.Terms,vi a0.g.Nons,vi a0.g.Start,v1,v2,v3]),It.sl (Sh.sl Sh.C9) v3 a0.next_]) (_:RdS Sh.E2 Z v1 a0.g.Rules) (_:RdS Sh.B6 Z v2 a0.of_) (_:RdS Sh.F2 Z v4 a2) {r:Ty.G3} (_:P.F0 φ a0 a1 a2 a3=some r),G T I.F0 [(pV o1 0),vi a1,v4,vi a3] H (fun rv H'=>∃(u1:Value) (u2:Value) (u3:Value),rv=undef∧Sat Z V H' [pts o1 (.rw 0 [vi r.g.Terms,vi r.g.Nons,vi r.g.Start,u1,u2,u3]),Sh.it (Sh.ro (Sh.sl Sh.E2)) [u1] r.g.Rules,Sh.it (Sh.ro (Sh.sl Sh.B6)) [u2] r.of_,It.sl (Sh.sl Sh.C9) u3 r.next_])):=by
 intro φ
 induction φ with
 | zero=>
   refine⟨?_,?_⟩
   ·intro Z V H v1 v2 v3 o1 a0 a1 a2 a3 hs hp1 hp2 r e
    rw [P.B4] at e;cases e
   ·intro Z V H v1 v2 v3 o1 v4 a0 a1 a2 a3 hs hp1 hp2 hp4 r e
    rw [P.F0] at e;cases e
 | succ φ ih=>
   refine⟨?_,?_⟩
   ·intro Z V H v1 v2 v3 o1 a0 a1 a2 a3 hs hp1 hp2 r e
    rw [P.B4] at e
    refine bB nd.own_approx_nfa_add (ah (af (aa (v:=pV o1 0) rfl (bS rfl (am rfl ?_)))))
    obtain⟨d1,rfl⟩:=(hp1).val
    obtain⟨d2,rfl⟩:=(hp2).val
    obtain⟨d3,rfl⟩:=((hs.curS (s:=Sh.sl Sh.C9) 1 rfl)).val
    refine ak 0 hs rfl rfl rfl rfl (aD rfl ((hs.curS (s:=Sh.sl Sh.C9) 1 rfl)).len (cC rfl rfl (ae (aI rfl (fun q1=>?_) (fun q1=>?_)))))
    ·replace e:=ax q1 e
     refine aL ?_
     obtain rfl:=oJ e
     exact⟨.inr rfl,_,rfl,_,_,_,rfl,(((hs.push (dD (cR hp1))).push (dD (cR hp2))).pick [2,1,0,3] rfl)⟩
    replace e:=bb q1 e
    refine ar (af (aa (v:=pV o1 0) rfl (bS rfl (am rfl (ak 0 hs rfl rfl rfl rfl (aa (v:=vi a1) rfl ?_))))))
    obtain⟨x1,q2,e⟩:=oB e
    refine aJ (v:=vS d2 a0.of_) rfl rfl hp2 rfl q2 fun p1 q3=>cO rfl hp2 hs.z rfl q3 q2 fun c1 h1=>?_
    obtain⟨w1,rfl,h2⟩:=Sh.K9 h1
    refine bv hs fun b1 H1 s1=>?_
    obtain⟨d4,rfl⟩:=(h2).val
    refine aP (us':=[vi x1.Kind,(vS d4 x1.Nons)]) 0 s1 rfl rfl rfl rfl rfl rfl rfl fun H2 s2=>ae (ap (P:=fun tm=>tm 0=(pV o1 0)∧tm 1=vi a1∧tm 2=vi a2∧tm 3=vi a3∧tm 8=(pV b1 0)∧True) ⟨rfl,rfl,rfl,rfl,rfl,trivial⟩ ?_)
    intro _ i1
    obtain⟨h3,h4,h5,h6,h7,-⟩:=i1
    refine af (dy (vi:Int→Value) (vi:Int→Value) s2 fun b2 H3 s3=>dy (vi:Int→Value) (vi:Int→Value) s3 fun b3 H4 s4=>aa (v:=.map (some b2)) rfl (aa (v:=.map (some b3)) rfl (ae (ah (af (am h7 (ak 2 s4 rfl rfl rfl rfl (aD rfl (h2).len (aa (v:=vi 0) rfl (ae ?_))))))))))
    obtain⟨y1,q6,e⟩:=oB e
    refine ay (aV (xs:=x1.Nons) (fun(i2:Nat) (s5:(Int×Int×Int×(List Ty.E2)×(List Ty.B6)×(List (List Ty.C9))×(List (Int×Int))×(List (Int×Int)))) tm H=>tm 43=vi i2∧∃(Z1 V1:PH) (w2:Value) (w3:Value) (w4:Value),Gw Z V Z1 V1∧Sat Z1 V1 H [pts o1 (.rw 0 [vi s5.1,vi s5.2.1,vi s5.2.2.1,w3,w4,w2]),It.sl (Sh.sl Sh.C9) w2 s5.2.2.2.2.2.1,pts b1 (.rw 0 [vi x1.Kind,(vS d4 x1.Nons)]),It.mp vi vi b2 s5.2.2.2.2.2.2.1,It.mp vi vi b3 s5.2.2.2.2.2.2.2]∧tm 0=(pV o1 0)∧tm 1=vi a1∧tm 2=vi a2∧tm 3=vi a3∧tm 8=(pV b1 0)∧tm 9=(.map (some b2))∧tm 10=(.map (some b3))∧tm 41=(vS d4 x1.Nons)∧tm 42=(vN x1.Nons)∧RdS Sh.E2 Z1 w3 s5.2.2.2.1∧RdS Sh.B6 Z1 w4 s5.2.2.2.2.1) (fun i2 x2 s5 s7 tm H6 q4 q5 j1 e1 k1=>?_) (fun tm H5 jd=>?_) q6 ⟨rfl,_,_,_,_,_,Gw.refl _ _,(s4.pick [3,4,2,1,0] rfl),h3,h4,h5,h6,h7,rfl,rfl,rfl,rfl,hp1,hp2⟩)
    ·obtain⟨hti0,Z1,V1,w2,w3,w4,g1,s6,h10,h11,h12,h13,h14,h15,h16,h17,h18,h8,h9⟩:=j1
     unfold P.B4.b0 at e1
     refine af (ao hti0 h18 (ae (ah (be rfl (Int.ofNat_lt.2 q5) (ar (ah (ay (af (aJ (v:=vS d4 x1.Nons) h17 hti0 (h2.mono g1.z) rfl (Pu.ix_nat.trans q4) fun p2 q7=>cj rfl (h2.mono g1.z) s6.z q7 (Pu.ix_nat.trans q4) (aa (v:=vi x2) rfl (ae (af (aa h15 (aa (v:=vi x2) rfl (aa h10 ?_)))))))))))))))
     obtain⟨x3,q8,e1⟩:=oB e1
     obtain⟨d5,rfl⟩:=(h8).val
     obtain⟨d6,rfl⟩:=(h9).val
     obtain⟨d7,rfl⟩:=((s6.curS (s:=Sh.sl Sh.C9) 1 rfl)).val
     obtain⟨Z2,V2,W1,g2,u1,c2,c3,-,c5,c4⟩:=Sat.call (l1:=[pts o1 (.rw 0 [vi s5.1,vi s5.2.1,vi s5.2.2.1,(vS d5 s5.2.2.2.1),(vS d6 s5.2.2.2.2.1),(vS d7 s5.2.2.2.2.2.1)]),It.sl (Sh.sl Sh.C9) (vS d7 s5.2.2.2.2.2.1) s5.2.2.2.2.2.1]) (l2:=[pts b1 (.rw 0 [vi x1.Kind,(vS d4 x1.Nons)]),It.mp vi vi b2 s5.2.2.2.2.2.2.1,It.mp vi vi b3 s5.2.2.2.2.2.2.2]) s6
     refine au (mc rfl m0) (X.F6 nd.F6 (a0:=Ty.G3.mk (Ty.E8.mk s5.1 s5.2.1 s5.2.2.1 s5.2.2.2.1) s5.2.2.2.2.1 s5.2.2.2.2.2.1) c2 (h8.mono g2.z) (h9.mono g2.z) q8) fun _ H7 i3=>?_
     obtain⟨w5,w6,w7,rfl,s8⟩:=i3
     have s9:=c4 _ _ s8
     obtain⟨Z3,V3,g3,s10,h19⟩:=(s9.pull 1 rfl).frzR
     obtain⟨Z4,V4,g4,s11,h20⟩:=(s10.pull 1 rfl).frzR
     refine dz Mk.i (q:=x2) (v:=x3.2) 3 s11 rfl rfl rfl rfl rfl rfl fun H8 s12=>ae (af (am h14 (ak 2 s12 rfl rfl rfl rfl (co rfl rfl (ae (ap (P:=fun tm=>tm 0=(pV o1 0)∧tm 1=vi a1∧tm 2=vi a2∧tm 3=vi a3∧tm 8=(pV b1 0)∧tm 9=(.map (some b2))∧tm 10=(.map (some b3))∧tm 12=vi x2∧tm 41=(vS d4 x1.Nons)∧tm 42=(vN x1.Nons)∧tm 43=(vJ i2)∧tm 53=(.bool (decide (x1.Kind=2)))∧True) ⟨h10,h11,h12,h13,h14,h15,h16,rfl,h17,h18,hti0,rfl,trivial⟩ ?_))))))
     intro _ i4
     obtain⟨h21,h22,h23,h24,h25,h26,h27,h28,h29,h30,h31,h32,-⟩:=i4
     obtain⟨y2,e2,e1⟩:=oB e1
     refine bf (I:=fun tm H=>∃(Z5 V5:PH) (w8:Value) (w9:Value) (w10:Value),Gw Z4 V4 Z5 V5∧Sat Z5 V5 H [pts o1 (.rw 0 [vi y2.1,vi y2.2.1,vi y2.2.2.1,w9,w10,w8]),It.sl (Sh.sl Sh.C9) w8 y2.2.2.2.2.2.1,pts b1 (.rw 0 [vi x1.Kind,(vS d4 x1.Nons)]),It.mp vi vi b2 (Pu.mput x2 x3.2 s5.2.2.2.2.2.2.1),It.mp vi vi b3 y2.2.2.2.2.2.2]∧tm 0=(pV o1 0)∧tm 1=vi a1∧tm 2=vi a2∧tm 3=vi a3∧tm 8=(pV b1 0)∧tm 9=(.map (some b2))∧tm 10=(.map (some b3))∧tm 41=(vS d4 x1.Nons)∧tm 42=(vN x1.Nons)∧tm 43=(vJ i2)∧RdS Sh.E2 Z5 w9 y2.2.2.2.1∧RdS Sh.B6 Z5 w10 y2.2.2.2.2.1) (fun k2=>?_) ?_
     ·refine aI h32 (fun q9=>?_) (fun q9=>?_)
      ·replace e2:=ax q9 e2
       refine bq (aa h27 (aa h28 (aa h21 ?_)))
       obtain⟨x4,q10,e2⟩:=oB e2
       obtain⟨d8,rfl⟩:=((h19.mono g4.z)).val
       obtain⟨d9,rfl⟩:=(h20).val
       obtain⟨d10,rfl⟩:=((s12.curS (s:=Sh.sl Sh.C9) 1 rfl)).val
       obtain⟨Z6,V6,W2,g6,u2,c6,c7,-,c9,c8⟩:=Sat.call (l1:=[pts o1 (.rw 0 [vi x3.1.g.Terms,vi x3.1.g.Nons,vi x3.1.g.Start,(vS d8 x3.1.g.Rules),(vS d9 x3.1.of_),(vS d10 x3.1.next_)]),It.sl (Sh.sl Sh.C9) (vS d10 x3.1.next_) x3.1.next_]) (l2:=[pts b1 (.rw 0 [vi x1.Kind,(vS d4 x1.Nons)]),It.mp vi vi b2 (Pu.mput x2 x3.2 s5.2.2.2.2.2.2.1),It.mp vi vi b3 s5.2.2.2.2.2.2.2]) s12
       refine au (mc rfl m0) (X.F6 nd.F6 (a0:=x3.1) c6 (h19.mono (g4.trans g6).z) (h20.mono g6.z) q10) fun _ H10 i5=>?_
       obtain⟨w11,w12,w13,rfl,s14⟩:=i5
       have s15:=c8 _ _ s14
       obtain⟨Z7,V7,g7,s16,h45⟩:=(s15.pull 1 rfl).frzR
       obtain⟨Z8,V8,g8,s17,h46⟩:=(s16.pull 1 rfl).frzR
       refine dz Mk.i (q:=x2) (v:=x4.2) 4 s17 rfl rfl rfl rfl rfl rfl fun H11 s18=>ae ?_
       obtain rfl:=oJ e2
       exact k2 _ _ ⟨_,_,_,_,_,(g6.trans (g7.trans g8)),s18,h21,h22,h23,h24,h25,h26,h27,h29,h30,h31,(h45.mono g8.z),h46⟩
      replace e2:=bb q9 e2
      refine ar ?_
      obtain rfl:=oJ e2
      exact k2 _ _ ⟨_,_,_,_,_,Gw.refl _ _,s12,h21,h22,h23,h24,h25,h26,h27,h29,h30,h31,(h19.mono g4.z),h20⟩
     intro _ H9 i6
     obtain⟨Z5,V5,w8,w9,w10,g5,s13,h35,h36,h37,h38,h39,h40,h41,h42,h43,h44,h33,h34⟩:=i6
     refine aF (bq (az h44 rfl (aa (v:=vi (Pu.W ((i2:Int)+1))) rfl (ae ?_))))
     obtain rfl:=oJ e1
     exact k1 _ _ ⟨(iv rfl (bE q5 (h2).bd)),_,_,_,_,_,(g1.trans (g2.trans (g3.trans (g4.trans g5)))),s13,h35,h36,h37,h38,h39,h40,h41,h42,h43,h33,h34⟩
    obtain⟨hte0,Z9,V9,w14,w15,w16,g9,s19,h49,h50,h51,h52,h53,h54,h55,h56,h57,h47,h48⟩:=jd
    refine af (ao hte0 h57 (ae (ah (bc rfl (Int.lt_irrefl _) (aR (aU (aU (bT (ah (af (am h53 (ak 2 s19 rfl rfl rfl rfl (ae (ay (af (co rfl rfl (aa (v:=.bool (decide (x1.Kind=1))) rfl (ae ?_))))))))))))))))))
    obtain⟨y3,e3,e⟩:=oB e
    refine bf (I:=fun tm H=>∃(Z10 V10:PH) (w17:Value) (w18:Value) (w19:Value),Gw Z9 V9 Z10 V10∧Sat Z10 V10 H [pts o1 (.rw 0 [vi y3.1,vi y3.2.1,vi y3.2.2.1,w18,w19,w17]),It.sl (Sh.sl Sh.C9) w17 y3.2.2.2.2.2,pts b1 (.rw 0 [vi x1.Kind,(vS d4 x1.Nons)]),It.mp vi vi b2 y1.2.2.2.2.2.2.1,It.mp vi vi b3 y1.2.2.2.2.2.2.2]∧tm 0=(pV o1 0)∧tm 2=vi a2∧tm 3=vi a3∧tm 8=(pV b1 0)∧tm 9=(.map (some b2))∧tm 10=(.map (some b3))∧RdS Sh.E2 Z10 w18 y3.2.2.2.1∧RdS Sh.B6 Z10 w19 y3.2.2.2.2.1) (fun k3=>?_) ?_
    ·refine aI rfl (fun q11=>?_) (fun q11=>?_)
     ·replace e3:=ax q11 e3
      refine bq (aa h49 (aa h54 (aa h50 (ck Mk.i (q:=a1) (z:=0) 3 s19 rfl rfl rfl rfl rfl (aa h52 ?_)))))
      obtain⟨x5,q12,e3⟩:=oB e3
      obtain⟨d11,rfl⟩:=(h47).val
      obtain⟨d12,rfl⟩:=(h48).val
      obtain⟨d13,rfl⟩:=((s19.curS (s:=Sh.sl Sh.C9) 1 rfl)).val
      obtain⟨Z11,V11,W3,g11,u3,c10,c11,-,c13,c12⟩:=Sat.call (l1:=[pts o1 (.rw 0 [vi y1.1,vi y1.2.1,vi y1.2.2.1,(vS d11 y1.2.2.2.1),(vS d12 y1.2.2.2.2.1),(vS d13 y1.2.2.2.2.2.1)]),It.sl (Sh.sl Sh.C9) (vS d13 y1.2.2.2.2.2.1) y1.2.2.2.2.2.1]) (l2:=[pts b1 (.rw 0 [vi x1.Kind,(vS d4 x1.Nons)]),It.mp vi vi b2 y1.2.2.2.2.2.2.1,It.mp vi vi b3 y1.2.2.2.2.2.2.2]) s19
      refine au (mc rfl (mc rfl (mc rfl (mc rfl m0)))) (X.F8 nd.F8 (a0:=Ty.G3.mk (Ty.E8.mk y1.1 y1.2.1 y1.2.2.1 y1.2.2.2.1) y1.2.2.2.2.1 y1.2.2.2.2.2.1) c10 (h47.mono g11.z) (h48.mono g11.z) q12) fun _ H14 i7=>?_
      obtain⟨w20,w21,w22,rfl,s21⟩:=i7
      have s22:=c12 _ _ s21
      obtain⟨Z12,V12,g12,s23,h66⟩:=(s22.pull 1 rfl).frzR
      obtain⟨Z13,V13,g13,s24,h67⟩:=(s23.pull 1 rfl).frzR
      refine ae ?_
      obtain rfl:=oJ e3
      exact k3 _ _ ⟨_,_,_,_,_,(g11.trans (g12.trans g13)),s24,h49,h51,h52,h53,h54,h55,(h66.mono g13.z),h67⟩
     replace e3:=bb q11 e3
     refine af (co rfl rfl (aa (v:=.bool (decide (x1.Kind=0))) rfl (ae ?_)))
     obtain⟨y4,e4,e3⟩:=oB e3
     refine bf (I:=fun tm H=>∃(Z14 V14:PH) (w23:Value) (w24:Value) (w25:Value),Gw Z9 V9 Z14 V14∧Sat Z14 V14 H [pts o1 (.rw 0 [vi y4.1,vi y4.2.1,vi y4.2.2.1,w24,w25,w23]),It.sl (Sh.sl Sh.C9) w23 y4.2.2.2.2.2,pts b1 (.rw 0 [vi x1.Kind,(vS d4 x1.Nons)]),It.mp vi vi b2 y1.2.2.2.2.2.2.1,It.mp vi vi b3 y1.2.2.2.2.2.2.2]∧tm 0=(pV o1 0)∧tm 2=vi a2∧tm 3=vi a3∧tm 8=(pV b1 0)∧tm 9=(.map (some b2))∧tm 10=(.map (some b3))∧RdS Sh.E2 Z14 w24 y4.2.2.2.1∧RdS Sh.B6 Z14 w25 y4.2.2.2.2.1) (fun k4=>?_) ?_
     ·refine aI rfl (fun q13=>?_) (fun q13=>?_)
      ·replace e4:=ax q13 e4
       refine bq (aa h49 (aa h51 (aa h54 (aa h50 (ck Mk.i (q:=a1) (z:=0) 3 s19 rfl rfl rfl rfl rfl ?_)))))
       obtain⟨x6,q14,e4⟩:=oB e4
       obtain⟨d14,rfl⟩:=(h47).val
       obtain⟨d15,rfl⟩:=(h48).val
       obtain⟨d16,rfl⟩:=((s19.curS (s:=Sh.sl Sh.C9) 1 rfl)).val
       obtain⟨Z15,V15,W4,g15,u4,c14,c15,-,c17,c16⟩:=Sat.call (l1:=[pts o1 (.rw 0 [vi y1.1,vi y1.2.1,vi y1.2.2.1,(vS d14 y1.2.2.2.1),(vS d15 y1.2.2.2.2.1),(vS d16 y1.2.2.2.2.2.1)]),It.sl (Sh.sl Sh.C9) (vS d16 y1.2.2.2.2.2.1) y1.2.2.2.2.2.1]) (l2:=[pts b1 (.rw 0 [vi x1.Kind,(vS d4 x1.Nons)]),It.mp vi vi b2 y1.2.2.2.2.2.2.1,It.mp vi vi b3 y1.2.2.2.2.2.2.2]) s19
       refine au (mc rfl (mc rfl (mc rfl (mc rfl m0)))) (X.F8 nd.F8 (a0:=Ty.G3.mk (Ty.E8.mk y1.1 y1.2.1 y1.2.2.1 y1.2.2.2.1) y1.2.2.2.2.1 y1.2.2.2.2.2.1) c14 (h47.mono g15.z) (h48.mono g15.z) q14) fun _ H16 i8=>?_
       obtain⟨w26,w27,w28,rfl,s26⟩:=i8
       have s27:=c16 _ _ s26
       obtain⟨Z16,V16,g16,s28,h76⟩:=(s27.pull 1 rfl).frzR
       obtain⟨Z17,V17,g17,s29,h77⟩:=(s28.pull 1 rfl).frzR
       refine ae ?_
       obtain rfl:=oJ e4
       exact k4 _ _ ⟨_,_,_,_,_,(g15.trans (g16.trans g17)),s29,h49,h51,h52,h53,h54,h55,(h76.mono g17.z),h77⟩
      replace e4:=bb q13 e4
      refine af (aa h49 (aa h51 (aa h54 (aa h50 (ck Mk.i (q:=a1) (z:=0) 3 s19 rfl rfl rfl rfl rfl ?_)))))
      obtain⟨x7,q15,e4⟩:=oB e4
      obtain⟨d17,rfl⟩:=(h47).val
      obtain⟨d18,rfl⟩:=(h48).val
      obtain⟨d19,rfl⟩:=((s19.curS (s:=Sh.sl Sh.C9) 1 rfl)).val
      obtain⟨Z18,V18,W5,g18,u5,c18,c19,-,c21,c20⟩:=Sat.call (l1:=[pts o1 (.rw 0 [vi y1.1,vi y1.2.1,vi y1.2.2.1,(vS d17 y1.2.2.2.1),(vS d18 y1.2.2.2.2.1),(vS d19 y1.2.2.2.2.2.1)]),It.sl (Sh.sl Sh.C9) (vS d19 y1.2.2.2.2.2.1) y1.2.2.2.2.2.1]) (l2:=[pts b1 (.rw 0 [vi x1.Kind,(vS d4 x1.Nons)]),It.mp vi vi b2 y1.2.2.2.2.2.2.1,It.mp vi vi b3 y1.2.2.2.2.2.2.2]) s19
      refine au (mc rfl (mc rfl (mc rfl (mc rfl m0)))) (X.F8 nd.F8 (a0:=Ty.G3.mk (Ty.E8.mk y1.1 y1.2.1 y1.2.2.1 y1.2.2.2.1) y1.2.2.2.2.1 y1.2.2.2.2.2.1) c18 (h47.mono g18.z) (h48.mono g18.z) q15) fun _ H17 i9=>?_
      obtain⟨w29,w30,w31,rfl,s30⟩:=i9
      have s31:=c20 _ _ s30
      obtain⟨Z19,V19,g19,s32,h78⟩:=(s31.pull 1 rfl).frzR
      obtain⟨Z20,V20,g20,s33,h79⟩:=(s32.pull 1 rfl).frzR
      refine ae (ap (P:=fun tm=>tm 0=(pV o1 0)∧tm 1=vi a1∧tm 2=vi a2∧tm 3=vi a3∧tm 8=(pV b1 0)∧tm 9=(.map (some b2))∧tm 10=(.map (some b3))∧True) ⟨h49,h50,h51,h52,h53,h54,h55,trivial⟩ ?_)
      intro _ i10
      obtain⟨h80,h81,h82,h83,h84,h85,h86,-⟩:=i10
      refine bq (aa h80 (aa h86 (aa h81 (ck Mk.i (q:=a1) (z:=0) 4 s33 rfl rfl rfl rfl rfl (aa h83 ?_)))))
      obtain⟨x8,q16,e4⟩:=oB e4
      obtain⟨d20,rfl⟩:=((h78.mono g20.z)).val
      obtain⟨d21,rfl⟩:=(h79).val
      obtain⟨d22,rfl⟩:=((s33.curS (s:=Sh.sl Sh.C9) 1 rfl)).val
      obtain⟨Z21,V21,W6,g21,u6,c22,c23,-,c25,c24⟩:=Sat.call (l1:=[pts o1 (.rw 0 [vi x7.g.Terms,vi x7.g.Nons,vi x7.g.Start,(vS d20 x7.g.Rules),(vS d21 x7.of_),(vS d22 x7.next_)]),It.sl (Sh.sl Sh.C9) (vS d22 x7.next_) x7.next_]) (l2:=[pts b1 (.rw 0 [vi x1.Kind,(vS d4 x1.Nons)]),It.mp vi vi b2 y1.2.2.2.2.2.2.1,It.mp vi vi b3 y1.2.2.2.2.2.2.2]) s33
      refine au (mc rfl (mc rfl (mc rfl (mc rfl m0)))) (X.F8 nd.F8 (a0:=x7) c22 (h78.mono (g20.trans g21).z) (h79.mono g21.z) q16) fun _ H18 i11=>?_
      obtain⟨w32,w33,w34,rfl,s34⟩:=i11
      have s35:=c24 _ _ s34
      obtain⟨Z22,V22,g22,s36,h87⟩:=(s35.pull 1 rfl).frzR
      obtain⟨Z23,V23,g23,s37,h88⟩:=(s36.pull 1 rfl).frzR
      refine ae ?_
      obtain rfl:=oJ e4
      exact k4 _ _ ⟨_,_,_,_,_,(g18.trans (g19.trans (g20.trans (g21.trans (g22.trans g23))))),s37,h80,h82,h83,h84,h85,h86,(h87.mono g23.z),h88⟩
     intro _ H15 i12
     obtain⟨Z14,V14,w23,w24,w25,g14,s25,h70,h71,h72,h73,h74,h75,h68,h69⟩:=i12
     obtain rfl:=oJ e3
     exact k3 _ _ ⟨_,_,_,_,_,g14,s25,h70,h71,h72,h73,h74,h75,h68,h69⟩
    intro _ H13 i13
    obtain⟨Z10,V10,w17,w18,w19,g10,s20,h60,h61,h62,h63,h64,h65,h58,h59⟩:=i13
    refine aF (af (aa h60 (bS rfl (am rfl (am rfl ?_)))))
    obtain⟨d23,rfl⟩:=(h58).val
    obtain⟨d24,rfl⟩:=(h59).val
    obtain⟨d25,rfl⟩:=((s20.curS (s:=Sh.sl Sh.C9) 1 rfl)).val
    refine ak 0 s20 rfl rfl rfl rfl (aD rfl (h58).len (aa (v:=vi 0) rfl (ae ?_)))
    obtain⟨y5,q19,e⟩:=oB e
    refine ay (aV (xs:=y3.2.2.2.1) (fun(i14:Nat) (s38:(Int×Int×Int×(List Ty.E2)×(List Ty.B6)×(List (List Ty.C9)))) tm H=>tm 95=vi i14∧∃(Z24 V24:PH) (w35:Value) (w36:Value) (w37:Value),Gw Z10 V10 Z24 V24∧Sat Z24 V24 H [pts o1 (.rw 0 [vi s38.1,vi s38.2.1,vi s38.2.2.1,w36,w37,w35]),It.sl (Sh.sl Sh.C9) w35 s38.2.2.2.2.2,pts b1 (.rw 0 [vi x1.Kind,(vS d4 x1.Nons)]),It.mp vi vi b2 y1.2.2.2.2.2.2.1,It.mp vi vi b3 y1.2.2.2.2.2.2.2]∧tm 0=(pV o1 0)∧tm 2=vi a2∧tm 3=vi a3∧tm 8=(pV b1 0)∧tm 9=(.map (some b2))∧tm 10=(.map (some b3))∧tm 93=(vS d23 y3.2.2.2.1)∧tm 94=(vN y3.2.2.2.1)∧RdS Sh.E2 Z24 w36 s38.2.2.2.1∧RdS Sh.B6 Z24 w37 s38.2.2.2.2.1) (fun i14 x9 s38 s40 tm H20 q17 q18 j2 e5 k5=>?_) (fun tm H19 jd=>?_) q19 ⟨rfl,_,_,_,_,_,Gw.refl _ _,s20,h60,h61,h62,h63,h64,h65,rfl,rfl,h58,h59⟩)
    ·obtain⟨hti1,Z24,V24,w35,w36,w37,g24,s39,h91,h92,h93,h94,h95,h96,h97,h98,h89,h90⟩:=j2
     unfold P.B4.b1 at e5
     refine af (ao hti1 h98 (ae (ah (be rfl (Int.ofNat_lt.2 q18) (ar (ah (ay (af (aJ (v:=vS d23 y3.2.2.2.1) h97 hti1 (h58.mono g24.z) rfl (Pu.ix_nat.trans q17) fun p3 q20=>cO rfl (h58.mono g24.z) s39.z rfl q20 (Pu.ix_nat.trans q17) fun c26 h99=>?_)))))))))
     obtain⟨w38,rfl,h100⟩:=Sh.K7 h99
     refine bv s39 fun b4 H21 s41=>?_
     obtain⟨d26,rfl⟩:=(h100).val
     refine aP (us':=[vi x9.Left,(vS d26 x9.Right)]) 0 s41 rfl rfl rfl rfl rfl rfl rfl fun H22 s42=>ae (ah (af (aa h95 (am rfl (ak 0 s42 rfl rfl rfl rfl (gK Mk.i (q:=x9.Left) (z:=0) 4 s42 rfl rfl rfl rfl rfl (aa (v:=.tuple #[(vi ((Pu.mget x9.Left y1.2.2.2.2.2.2.1).getD 0)),(.bool ((Pu.mget x9.Left y1.2.2.2.2.2.2.1).isSome))]) rfl (bH rfl rfl (bH rfl rfl (aa (v:=vi ((Pu.mget x9.Left y1.2.2.2.2.2.2.1).getD 0)) rfl (aa (v:=.bool ((Pu.mget x9.Left y1.2.2.2.2.2.2.1).isSome)) rfl (ae (ap (P:=fun tm=>tm 0=(pV o1 0)∧tm 2=vi a2∧tm 3=vi a3∧tm 8=(pV b1 0)∧tm 9=(.map (some b2))∧tm 10=(.map (some b3))∧tm 14=(pV b4 0)∧tm 16=(.bool ((Pu.mget x9.Left y1.2.2.2.2.2.2.1).isSome))∧tm 93=(vS d23 y3.2.2.2.1)∧tm 94=(vN y3.2.2.2.1)∧tm 95=(vJ i14)∧True) ⟨h91,h92,h93,h94,h95,h96,rfl,rfl,h97,h98,hti1,trivial⟩ ?_)))))))))))))
     intro _ i15
     obtain⟨h101,h102,h103,h104,h105,h106,h107,h108,h109,h110,h111,-⟩:=i15
     refine af (aa h108 (cy rfl (ae (bx rfl (fun q21=>?_) (fun q21=>?_)))))
     ·replace e5:=ax q21 e5
      refine aR (aU (bT (bq (az h111 rfl (aa (v:=vi (Pu.W ((i14:Int)+1))) rfl (ae ?_))))))
      obtain rfl:=oJ e5
      exact k5 _ _ ⟨(iv rfl (bE q18 (h58).bd)),_,_,_,_,_,g24,(s42.pick [1,2,3,4,5] rfl),h101,h102,h103,h104,h105,h106,h109,h110,h89,h90⟩
     replace e5:=aS q21 e5
     refine ar (af (am h107 (ak 0 s42 rfl rfl rfl rfl (aa (v:=vS d26 x9.Right) rfl (ae (af (am h104 (ak 3 s42 rfl rfl rfl rfl (ae (ay (af (co rfl rfl (aa (v:=.bool (decide (x1.Kind=0))) rfl (ae ?_))))))))))))))
     obtain⟨y6,e6,e5⟩:=oB e5
     refine bf (I:=fun tm H=>∃(Z25 V25:PH) (w39:Value) (w40:Value) (w41:Value),Gw Z24 V24 Z25 V25∧Sat Z25 V25 H [pts o1 (.rw 0 [vi y6.1,vi y6.2.1,vi y6.2.2.1,w40,w41,w39]),It.sl (Sh.sl Sh.C9) w39 y6.2.2.2.2.2,pts b1 (.rw 0 [vi x1.Kind,(vS d4 x1.Nons)]),It.mp vi vi b2 y1.2.2.2.2.2.2.1,It.mp vi vi b3 y1.2.2.2.2.2.2.2]∧tm 0=(pV o1 0)∧tm 2=vi a2∧tm 3=vi a3∧tm 8=(pV b1 0)∧tm 9=(.map (some b2))∧tm 10=(.map (some b3))∧tm 93=(vS d23 y3.2.2.2.1)∧tm 94=(vN y3.2.2.2.1)∧tm 95=(vJ i14)∧RdS Sh.E2 Z25 w40 y6.2.2.2.1∧RdS Sh.B6 Z25 w41 y6.2.2.2.2.1) (fun k6=>?_) ?_
     ·refine aI rfl (fun q22=>?_) (fun q22=>?_)
      ·replace e6:=ax q22 e6
       refine af (aa h103 (aa (v:=vi a3) rfl (ae (ap (P:=fun tm=>tm 0=(pV o1 0)∧tm 2=vi a2∧tm 3=vi a3∧tm 8=(pV b1 0)∧tm 9=(.map (some b2))∧tm 10=(.map (some b3))∧tm 14=(pV b4 0)∧tm 17=(vS d26 x9.Right)∧tm 18=vi a3∧tm 93=(vS d23 y3.2.2.2.1)∧tm 94=(vN y3.2.2.2.1)∧tm 95=(vJ i14)∧True) ⟨h101,h102,h103,h104,h105,h106,h107,rfl,rfl,h109,h110,h111,trivial⟩ ?_))))
       intro _ i16
       obtain⟨h123,h124,h125,h126,h127,h128,h129,h130,h131,h132,h133,h134,-⟩:=i16
       refine ah (af (aa h130 (aD rfl (h100).len (bz rfl rfl (aa (v:=vi (Pu.W ((x9.Right.length:Int)-1))) rfl (ae (ah (aA s42 fun n1 H24 s44 q23 d27=>aj (v:=vi (Pu.W ((x9.Right.length:Int)-1))) rfl (hO rfl rfl (aj (v:=.bool (decide (0≤(Pu.W ((x9.Right.length:Int)-1))))) rfl ?_))))))))))
       obtain⟨y7,e7,e6⟩:=oB e6
       refine dn 7 (I:=fun tm H=>DD n1 10 (List.length F.B4.r36) H∧(∃(Z26 V26:PH),Gw Z24 V24 Z26 V26∧Sat Z26 V26 H [pts o1 (.rw 0 [vi s38.1,vi s38.2.1,vi s38.2.2.1,w36,w37,w35]),It.sl (Sh.sl Sh.C9) w35 s38.2.2.2.2.2,pts b1 (.rw 0 [vi x1.Kind,(vS d4 x1.Nons)]),It.mp vi vi b2 y1.2.2.2.2.2.2.1,It.mp vi vi b3 y1.2.2.2.2.2.2.2,pts b4 (.rw 0 [vi x9.Left,(vS d26 x9.Right)])]∧tm 0=(pV o1 0)∧tm 2=vi a2∧tm 3=vi a3∧tm 8=(pV b1 0)∧tm 9=(.map (some b2))∧tm 10=(.map (some b3))∧tm 14=(pV b4 0)∧tm 17=(vS d26 x9.Right)∧tm 18=vi a3∧tm 19=(vi (Pu.W ((x9.Right.length:Int)-1)))∧tm 93=(vS d23 y3.2.2.2.1)∧tm 94=(vN y3.2.2.2.1)∧tm 95=(vJ i14)∧tm 176=(.bool y7))) (fun k7=>?_) ?_
       ·rcases Bool.eq_false_or_eq_true (decide (0≤(Pu.W ((x9.Right.length:Int)-1)))) with q24|q24
        ·replace e7:=ax q24 e7
         refine ai rfl q24 (aj h130 (ai rfl q24 (aj (v:=vi (Pu.W ((x9.Right.length:Int)-1))) rfl (ai rfl q24 ?_))))
         obtain⟨x10,q25,e7⟩:=oB e7
         refine aq (v:=vS d26 x9.Right) rfl rfl h100 rfl q25 fun p4 q26=>ai rfl q24 (dH rfl q26 fun p5 q27=>ai rfl q24 (fj (RdS.low h100 s44.z q23) rfl h100 s44.z rfl q26 q27 q25 rfl fun c27 h149=>?_))
         obtain rfl:=h149
         refine⟨_,rfl,?_⟩
         refine ai rfl q24 (dJ rfl (bJ (a:=.bool (!x10.Term)) rfl q24 rfl ?_))
         obtain rfl:=oJ e7
         exact k7 _ _ _ ⟨d27.up rfl,_,_,Gw.refl _ _,(s44.pick [1,2,3,4,5,0] rfl),h123,h124,h125,h126,h127,h128,h129,h130,h131,rfl,h132,h133,h134,rfl⟩
        replace e7:=aS q24 e7
        refine aw rfl q24 (aw rfl q24 (aw rfl q24 (aw rfl q24 (aw rfl q24 (aw rfl q24 (bI (b:=.bool false) rfl q24 rfl ?_))))))
        obtain rfl:=oJ e7
        exact k7 _ _ _ ⟨d27.up rfl,_,_,Gw.refl _ _,(s44.pick [1,2,3,4,5,0] rfl),h123,h124,h125,h126,h127,h128,h129,h130,h131,rfl,h132,h133,h134,rfl⟩
       intro _ H25 _ i17
       obtain⟨d28,Z26,V26,g26,s45,h135,h136,h137,h138,h139,h140,h141,h142,h143,h144,h145,h146,h147,h148⟩:=i17
       refine aj h148 ?_
       obtain⟨y8,e8,e6⟩:=oB e6
       refine dn 9 (I:=fun tm H=>DD n1 20 (List.length F.B4.r36) H∧(∃(Z27 V27:PH),Gw Z26 V26 Z27 V27∧Sat Z27 V27 H [pts o1 (.rw 0 [vi s38.1,vi s38.2.1,vi s38.2.2.1,w36,w37,w35]),It.sl (Sh.sl Sh.C9) w35 s38.2.2.2.2.2,pts b1 (.rw 0 [vi x1.Kind,(vS d4 x1.Nons)]),It.mp vi vi b2 y1.2.2.2.2.2.2.1,It.mp vi vi b3 y1.2.2.2.2.2.2.2,pts b4 (.rw 0 [vi x9.Left,(vS d26 x9.Right)])]∧tm 0=(pV o1 0)∧tm 2=vi a2∧tm 3=vi a3∧tm 8=(pV b1 0)∧tm 9=(.map (some b2))∧tm 10=(.map (some b3))∧tm 14=(pV b4 0)∧tm 17=(vS d26 x9.Right)∧tm 18=vi a3∧tm 19=(vi (Pu.W ((x9.Right.length:Int)-1)))∧tm 93=(vS d23 y3.2.2.2.1)∧tm 94=(vN y3.2.2.2.1)∧tm 95=(vJ i14)∧tm 186=(.bool y8))) (fun k8=>?_) ?_
       ·rcases Bool.eq_false_or_eq_true y7 with q28|q28
        ·replace e8:=ax q28 e8
         refine ai rfl q28 (bt h138 (ai rfl q28 (aZ (q23 _ _ (an.2 ⟨s44.curB 3 rfl,by simp⟩)) 2 s45 rfl rfl rfl rfl (ai rfl q28 (aj h142 (ai rfl q28 (aj h144 (ai rfl q28 ?_))))))))
         obtain⟨x11,q29,e8⟩:=oB e8
         refine aq (v:=vS d26 x9.Right) rfl rfl (h100.mono g26.z) rfl q29 fun p6 q30=>ai rfl q28 (dH rfl q30 fun p7 q31=>ai rfl q28 (fj (RdS.low h100 s44.z q23) rfl (h100.mono g26.z) s45.z rfl q30 q31 q29 rfl fun c28 h164=>?_))
         obtain rfl:=h164
         refine⟨_,rfl,?_⟩
         refine ai rfl q28 ?_
         obtain⟨x12,q32,e8⟩:=oB e8
         obtain⟨Z28,V28,W7,g28,u7,c29,c30,-,c32,c31⟩:=Sat.call (l1:=[]) s45
         refine bK (mc rfl (mc rfl m0)) (X.C4 nd.C4 c29 (h2.mono (((g9.trans (g10.trans (g24.trans g26))).trans g28).z.trans c29.zv)) q32) fun _ H27 i18 k9=>?_
         have d29:=d28.keep k9
         obtain⟨rfl,s47⟩:=i18
         have s48:=c31 _ _ s47
         refine bJ (a:=.bool x12) rfl q28 rfl ?_
         obtain rfl:=oJ e8
         exact k8 _ _ _ ⟨d29.up rfl,_,_,g28,s48,h135,h136,h137,h138,h139,h140,h141,h142,h143,h144,h145,h146,h147,rfl⟩
        replace e8:=aS q28 e8
        refine aw rfl q28 (aw rfl q28 (aw rfl q28 (aw rfl q28 (aw rfl q28 (aw rfl q28 (aw rfl q28 (aw rfl q28 (bI (b:=.bool false) rfl q28 rfl ?_))))))))
        obtain rfl:=oJ e8
        exact k8 _ _ _ ⟨d28.up rfl,_,_,Gw.refl _ _,s45,h135,h136,h137,h138,h139,h140,h141,h142,h143,h144,h145,h146,h147,rfl⟩
       intro _ H26 _ i19
       obtain⟨d30,Z27,V27,g27,s46,h150,h151,h152,h153,h154,h155,h156,h157,h158,h159,h160,h161,h162,h163⟩:=i19
       refine aQ aK ?_
       obtain⟨y9,e9,e6⟩:=oB e6
       refine bf (I:=fun tm H=>∃(Z29 V29:PH) (w42:Value),Gw Z27 V27 Z29 V29∧Sat Z29 V29 H [pts o1 (.rw 0 [vi s38.1,vi s38.2.1,vi s38.2.2.1,w36,w37,w35]),It.sl (Sh.sl Sh.C9) w35 s38.2.2.2.2.2,pts b1 (.rw 0 [vi x1.Kind,(vS d4 x1.Nons)]),It.mp vi vi b2 y1.2.2.2.2.2.2.1,It.mp vi vi b3 y1.2.2.2.2.2.2.2,pts b4 (.rw 0 [vi x9.Left,(vS d26 x9.Right)])]∧tm 0=(pV o1 0)∧tm 2=vi a2∧tm 3=vi a3∧tm 8=(pV b1 0)∧tm 9=(.map (some b2))∧tm 10=(.map (some b3))∧tm 14=(pV b4 0)∧tm 17=w42∧tm 18=vi y9.2∧tm 93=(vS d23 y3.2.2.2.1)∧tm 94=(vN y3.2.2.2.1)∧tm 95=(vJ i14)∧RdS Sh.F2 Z29 w42 y9.1) (fun k10=>?_) ?_
       ·refine bx h163 (fun q33=>?_) (fun q33=>?_)
        ·replace e9:=ax q33 e9
         refine aA s46 fun n2 H29 s50 q34 d31=>aj h154 (aj h157 (aj h159 ?_))
         obtain⟨x13,q35,e9⟩:=oB e9
         refine aq (v:=vS d26 x9.Right) rfl rfl (h100.mono (g26.trans g27).z) rfl q35 fun p8 q36=>dH rfl q36 fun p9 q37=>fj (RdS.low (h100.mono (g26.trans g27).z) s50.z q34) rfl (h100.mono (g26.trans g27).z) s50.z rfl q36 q37 q35 rfl fun c33 h178=>?_
         obtain rfl:=h178
         refine⟨_,rfl,?_⟩
         refine eB Mk.i (q:=x13.N) (z:=0) 3 s50 rfl rfl rfl rfl rfl (aj h157 (aj h159 ?_))
         obtain⟨x14,q38,e9⟩:=oB e9
         refine d_slch (RdS.low (h100.mono (g26.trans g27).z) s50.z q34) rfl rfl h100 ((g26.trans g27).z.trans s50.z) rfl q38 fun w43 h179=>aj (v:=vi ((Pu.mget x13.N y1.2.2.2.2.2.2.1).getD 0)) rfl (aj (v:=w43) rfl (aQ (cV rfl (ta2 (tra (tre (tl8 (trl tr0))))) (ta4 (ta2 (tre (tl4 (tl2 tr0))))) (ta4 (tra (tre (tl4 (tl2 (trl tr0)))))) (iJ ek rfl rfl h100 (g26.z.trans (g27.z.trans s50.z)) (g26.z.trans (g27.z.trans s50.z)) rfl q38) (iJ ek rfl rfl h100 (g26.z.trans (g27.z.trans s50.z)) (g26.z.trans (g27.z.trans s50.z)) rfl q38) aK) ?_))
         obtain rfl:=oJ e9
         exact k10 _ _ ⟨_,_,_,Gw.refl _ _,s50,h150,h151,h152,h153,h154,h155,h156,rfl,rfl,h160,h161,h162,(h179.mono (g26.trans g27).z)⟩
        replace e9:=aS q33 e9
        refine ar ?_
        obtain rfl:=oJ e9
        exact k10 _ _ ⟨_,_,_,Gw.refl _ _,s46,h150,h151,h152,h153,h154,h155,h156,h157,h158,h160,h161,h162,(h100.mono (g26.trans g27).z)⟩
       intro _ H28 i20
       obtain⟨Z29,V29,w42,g29,s49,h166,h167,h168,h169,h170,h171,h172,h173,h174,h175,h176,h177,h165⟩:=i20
       refine bq (aa h166 (aa h170 (am h172 (ak 5 s49 rfl rfl rfl rfl (ck Mk.i (q:=x9.Left) (z:=0) 3 s49 rfl rfl rfl rfl rfl (aa h173 (aa h174 ?_)))))))
       obtain⟨x15,q39,e6⟩:=oB e6
       obtain⟨d32,rfl⟩:=((h89.mono (g26.trans (g27.trans g29)).z)).val
       obtain⟨d33,rfl⟩:=((h90.mono (g26.trans (g27.trans g29)).z)).val
       obtain⟨d34,rfl⟩:=((s49.curS (s:=Sh.sl Sh.C9) 1 rfl)).val
       obtain⟨Z30,V30,W8,g30,u8,c34,c35,-,c37,c36⟩:=Sat.call (l1:=[pts o1 (.rw 0 [vi s38.1,vi s38.2.1,vi s38.2.2.1,(vS d32 s38.2.2.2.1),(vS d33 s38.2.2.2.2.1),(vS d34 s38.2.2.2.2.2)]),It.sl (Sh.sl Sh.C9) (vS d34 s38.2.2.2.2.2) s38.2.2.2.2.2]) (l2:=[pts b1 (.rw 0 [vi x1.Kind,(vS d4 x1.Nons)]),It.mp vi vi b2 y1.2.2.2.2.2.2.1,It.mp vi vi b3 y1.2.2.2.2.2.2.2,pts b4 (.rw 0 [vi x9.Left,(vS d26 x9.Right)])]) s49
       refine au (mc rfl (mc rfl (mc rfl (mc rfl m0)))) (ih.2 (a0:=Ty.G3.mk (Ty.E8.mk s38.1 s38.2.1 s38.2.2.1 s38.2.2.2.1) s38.2.2.2.2.1 s38.2.2.2.2.2) c34 (h89.mono ((g26.trans (g27.trans g29)).trans g30).z) (h90.mono ((g26.trans (g27.trans g29)).trans g30).z) (h165.mono g30.z) q39) fun _ H30 i21=>?_
       obtain⟨w44,w45,w46,rfl,s51⟩:=i21
       have s52:=c36 _ _ s51
       obtain⟨Z31,V31,g31,s53,h180⟩:=(s52.pull 1 rfl).frzR
       obtain⟨Z32,V32,g32,s54,h181⟩:=(s53.pull 1 rfl).frzR
       refine ae ?_
       obtain rfl:=oJ e6
       exact k6 _ _ ⟨_,_,_,_,_,(g26.trans (g27.trans (g29.trans (g30.trans (g31.trans g32))))),(s54.pick [0,1,2,3,4] rfl),h166,h167,h168,h169,h170,h171,h175,h176,h177,(h180.mono g32.z),h181⟩
      replace e6:=bb q22 e6
      refine af (co rfl rfl (aa (v:=.bool (decide (x1.Kind=1))) rfl (ae (ap (P:=fun tm=>tm 0=(pV o1 0)∧tm 2=vi a2∧tm 3=vi a3∧tm 8=(pV b1 0)∧tm 9=(.map (some b2))∧tm 10=(.map (some b3))∧tm 14=(pV b4 0)∧tm 17=(vS d26 x9.Right)∧tm 93=(vS d23 y3.2.2.2.1)∧tm 94=(vN y3.2.2.2.1)∧tm 95=(vJ i14)∧tm 205=(.bool (decide (x1.Kind=1)))∧True) ⟨h101,h102,h103,h104,h105,h106,h107,rfl,h109,h110,h111,rfl,trivial⟩ ?_))))
      intro _ i22
      obtain⟨h182,h183,h184,h185,h186,h187,h188,h189,h190,h191,h192,h193,-⟩:=i22
      obtain⟨y10,e10,e6⟩:=oB e6
      refine bf (I:=fun tm H=>∃(Z33 V33:PH) (w47:Value) (w48:Value) (w49:Value),Gw Z24 V24 Z33 V33∧Sat Z33 V33 H [pts o1 (.rw 0 [vi y10.1,vi y10.2.1,vi y10.2.2.1,w48,w49,w47]),It.sl (Sh.sl Sh.C9) w47 y10.2.2.2.2.2,pts b1 (.rw 0 [vi x1.Kind,(vS d4 x1.Nons)]),It.mp vi vi b2 y1.2.2.2.2.2.2.1,It.mp vi vi b3 y1.2.2.2.2.2.2.2]∧tm 0=(pV o1 0)∧tm 2=vi a2∧tm 3=vi a3∧tm 8=(pV b1 0)∧tm 9=(.map (some b2))∧tm 10=(.map (some b3))∧tm 93=(vS d23 y3.2.2.2.1)∧tm 94=(vN y3.2.2.2.1)∧tm 95=(vJ i14)∧RdS Sh.E2 Z33 w48 y10.2.2.2.1∧RdS Sh.B6 Z33 w49 y10.2.2.2.2.1) (fun k11=>?_) ?_
      ·refine aI h193 (fun q40=>?_) (fun q40=>?_)
       ·replace e10:=ax q40 e10
        refine af (aa h183 (aa (v:=vi a2) rfl (ae (ah (ah (aA s42 fun n3 H32 s56 q41 d35=>aj h189 (dI rfl (h100).len (jB rfl rfl (aj (v:=.bool (decide (0<(x9.Right.length:Int)))) rfl ?_)))))))))
        obtain⟨y11,e11,e10⟩:=oB e10
        refine dn 6 (I:=fun tm H=>DD n3 10 (List.length F.B4.r41) H∧(∃(Z34 V34:PH),Gw Z24 V24 Z34 V34∧Sat Z34 V34 H [pts o1 (.rw 0 [vi s38.1,vi s38.2.1,vi s38.2.2.1,w36,w37,w35]),It.sl (Sh.sl Sh.C9) w35 s38.2.2.2.2.2,pts b1 (.rw 0 [vi x1.Kind,(vS d4 x1.Nons)]),It.mp vi vi b2 y1.2.2.2.2.2.2.1,It.mp vi vi b3 y1.2.2.2.2.2.2.2,pts b4 (.rw 0 [vi x9.Left,(vS d26 x9.Right)])]∧tm 0=(pV o1 0)∧tm 2=vi a2∧tm 3=vi a3∧tm 8=(pV b1 0)∧tm 9=(.map (some b2))∧tm 10=(.map (some b3))∧tm 14=(pV b4 0)∧tm 17=(vS d26 x9.Right)∧tm 20=vi a2∧tm 93=(vS d23 y3.2.2.2.1)∧tm 94=(vN y3.2.2.2.1)∧tm 95=(vJ i14)∧tm 217=(.bool y11))) (fun k12=>?_) ?_
        ·rcases Bool.eq_false_or_eq_true (decide (0<(x9.Right.length:Int))) with q42|q42
         ·replace e11:=ax q42 e11
          refine ai rfl q42 (aj h189 (ai rfl q42 ?_))
          obtain⟨x16,q43,e11⟩:=oB e11
          refine aq (v:=vS d26 x9.Right) rfl rfl h100 rfl q43 fun p10 q44=>ai rfl q42 (dH rfl q44 fun p11 q45=>ai rfl q42 (fj (RdS.low h100 s56.z q41) rfl h100 s56.z rfl q44 q45 q43 rfl fun c38 h218=>?_))
          obtain rfl:=h218
          refine⟨_,rfl,?_⟩
          refine ai rfl q42 (dJ rfl (bJ (a:=.bool (!x16.Term)) rfl q42 rfl ?_))
          obtain rfl:=oJ e11
          exact k12 _ _ _ ⟨d35.up rfl,_,_,Gw.refl _ _,(s56.pick [1,2,3,4,5,0] rfl),h182,h183,h184,h185,h186,h187,h188,h189,rfl,h190,h191,h192,rfl⟩
         replace e11:=aS q42 e11
         refine aw rfl q42 (aw rfl q42 (aw rfl q42 (aw rfl q42 (aw rfl q42 (bI (b:=.bool false) rfl q42 rfl ?_)))))
         obtain rfl:=oJ e11
         exact k12 _ _ _ ⟨d35.up rfl,_,_,Gw.refl _ _,(s56.pick [1,2,3,4,5,0] rfl),h182,h183,h184,h185,h186,h187,h188,h189,rfl,h190,h191,h192,rfl⟩
        intro _ H33 _ i23
        obtain⟨d36,Z34,V34,g34,s57,h205,h206,h207,h208,h209,h210,h211,h212,h213,h214,h215,h216,h217⟩:=i23
        refine aj h217 ?_
        obtain⟨y12,e12,e10⟩:=oB e10
        refine dn 8 (I:=fun tm H=>DD n3 19 (List.length F.B4.r41) H∧(∃(Z35 V35:PH),Gw Z34 V34 Z35 V35∧Sat Z35 V35 H [pts o1 (.rw 0 [vi s38.1,vi s38.2.1,vi s38.2.2.1,w36,w37,w35]),It.sl (Sh.sl Sh.C9) w35 s38.2.2.2.2.2,pts b1 (.rw 0 [vi x1.Kind,(vS d4 x1.Nons)]),It.mp vi vi b2 y1.2.2.2.2.2.2.1,It.mp vi vi b3 y1.2.2.2.2.2.2.2,pts b4 (.rw 0 [vi x9.Left,(vS d26 x9.Right)])]∧tm 0=(pV o1 0)∧tm 2=vi a2∧tm 3=vi a3∧tm 8=(pV b1 0)∧tm 9=(.map (some b2))∧tm 10=(.map (some b3))∧tm 14=(pV b4 0)∧tm 17=(vS d26 x9.Right)∧tm 20=vi a2∧tm 93=(vS d23 y3.2.2.2.1)∧tm 94=(vN y3.2.2.2.1)∧tm 95=(vJ i14)∧tm 226=(.bool y12))) (fun k13=>?_) ?_
        ·rcases Bool.eq_false_or_eq_true y11 with q46|q46
         ·replace e12:=ax q46 e12
          refine ai rfl q46 (bt h208 (ai rfl q46 (aZ (q41 _ _ (an.2 ⟨s56.curB 3 rfl,by simp⟩)) 2 s57 rfl rfl rfl rfl (ai rfl q46 (aj h212 (ai rfl q46 ?_))))))
          obtain⟨x17,q47,e12⟩:=oB e12
          refine aq (v:=vS d26 x9.Right) rfl rfl (h100.mono g34.z) rfl q47 fun p12 q48=>ai rfl q46 (dH rfl q48 fun p13 q49=>ai rfl q46 (fj (RdS.low h100 s56.z q41) rfl (h100.mono g34.z) s57.z rfl q48 q49 q47 rfl fun c39 h232=>?_))
          obtain rfl:=h232
          refine⟨_,rfl,?_⟩
          refine ai rfl q46 ?_
          obtain⟨x18,q50,e12⟩:=oB e12
          obtain⟨Z36,V36,W9,g36,u9,c40,c41,-,c43,c42⟩:=Sat.call (l1:=[]) s57
          refine bK (mc rfl (mc rfl m0)) (X.C4 nd.C4 c40 (h2.mono (((g9.trans (g10.trans (g24.trans g34))).trans g36).z.trans c40.zv)) q50) fun _ H35 i24 k14=>?_
          have d37:=d36.keep k14
          obtain⟨rfl,s59⟩:=i24
          have s60:=c42 _ _ s59
          refine bJ (a:=.bool x18) rfl q46 rfl ?_
          obtain rfl:=oJ e12
          exact k13 _ _ _ ⟨d37.up rfl,_,_,g36,s60,h205,h206,h207,h208,h209,h210,h211,h212,h213,h214,h215,h216,rfl⟩
         replace e12:=aS q46 e12
         refine aw rfl q46 (aw rfl q46 (aw rfl q46 (aw rfl q46 (aw rfl q46 (aw rfl q46 (aw rfl q46 (bI (b:=.bool false) rfl q46 rfl ?_)))))))
         obtain rfl:=oJ e12
         exact k13 _ _ _ ⟨d36.up rfl,_,_,Gw.refl _ _,s57,h205,h206,h207,h208,h209,h210,h211,h212,h213,h214,h215,h216,rfl⟩
        intro _ H34 _ i25
        obtain⟨d38,Z35,V35,g35,s58,h219,h220,h221,h222,h223,h224,h225,h226,h227,h228,h229,h230,h231⟩:=i25
        refine aQ aK ?_
        obtain⟨y13,e13,e10⟩:=oB e10
        refine bf (I:=fun tm H=>∃(Z37 V37:PH) (w50:Value),Gw Z35 V35 Z37 V37∧Sat Z37 V37 H [pts o1 (.rw 0 [vi s38.1,vi s38.2.1,vi s38.2.2.1,w36,w37,w35]),It.sl (Sh.sl Sh.C9) w35 s38.2.2.2.2.2,pts b1 (.rw 0 [vi x1.Kind,(vS d4 x1.Nons)]),It.mp vi vi b2 y1.2.2.2.2.2.2.1,It.mp vi vi b3 y1.2.2.2.2.2.2.2,pts b4 (.rw 0 [vi x9.Left,(vS d26 x9.Right)])]∧tm 0=(pV o1 0)∧tm 2=vi a2∧tm 3=vi a3∧tm 8=(pV b1 0)∧tm 9=(.map (some b2))∧tm 10=(.map (some b3))∧tm 14=(pV b4 0)∧tm 17=w50∧tm 20=vi y13.2∧tm 93=(vS d23 y3.2.2.2.1)∧tm 94=(vN y3.2.2.2.1)∧tm 95=(vJ i14)∧RdS Sh.F2 Z37 w50 y13.1) (fun k15=>?_) ?_
        ·refine bx h231 (fun q51=>?_) (fun q51=>?_)
         ·replace e13:=ax q51 e13
          refine aA s58 fun n4 H37 s62 q52 d39=>aj h223 (aj h226 ?_)
          obtain⟨x19,q53,e13⟩:=oB e13
          refine aq (v:=vS d26 x9.Right) rfl rfl (h100.mono (g34.trans g35).z) rfl q53 fun p14 q54=>dH rfl q54 fun p15 q55=>fj (RdS.low (h100.mono (g34.trans g35).z) s62.z q52) rfl (h100.mono (g34.trans g35).z) s62.z rfl q54 q55 q53 rfl fun c44 h246=>?_
          obtain rfl:=h246
          refine⟨_,rfl,?_⟩
          refine eB Mk.i (q:=x19.N) (z:=0) 3 s62 rfl rfl rfl rfl rfl (aj h226 ?_)
          obtain⟨x20,q56,e13⟩:=oB e13
          refine jG (RdS.low (h100.mono (g34.trans g35).z) s62.z q52) rfl rfl h100 ((g34.trans g35).z.trans s62.z) rfl q56 fun w51 h247=>aj (v:=vi ((Pu.mget x19.N y1.2.2.2.2.2.2.1).getD 0)) rfl (aj (v:=w51) rfl (aQ (cV rfl (ta2 (tra (tre (tl4 (tl2 (trl tr0)))))) (ta4 (tra (tre (tl4 (trl tr0))))) (ta4 (tre (tl4 (tl2 tr0)))) (fp ek rfl rfl h100 (g34.z.trans (g35.z.trans s62.z)) (g34.z.trans (g35.z.trans s62.z)) rfl q56) (fp ek rfl rfl h100 (g34.z.trans (g35.z.trans s62.z)) (g34.z.trans (g35.z.trans s62.z)) rfl q56) aK) ?_))
          obtain rfl:=oJ e13
          exact k15 _ _ ⟨_,_,_,Gw.refl _ _,s62,h219,h220,h221,h222,h223,h224,h225,rfl,rfl,h228,h229,h230,(h247.mono (g34.trans g35).z)⟩
         replace e13:=aS q51 e13
         refine ar ?_
         obtain rfl:=oJ e13
         exact k15 _ _ ⟨_,_,_,Gw.refl _ _,s58,h219,h220,h221,h222,h223,h224,h225,h226,h227,h228,h229,h230,(h100.mono (g34.trans g35).z)⟩
        intro _ H36 i26
        obtain⟨Z37,V37,w50,g37,s61,h234,h235,h236,h237,h238,h239,h240,h241,h242,h243,h244,h245,h233⟩:=i26
        refine bq (aa h234 (aa h242 (aa h241 (aa h238 (am h240 (ak 5 s61 rfl rfl rfl rfl (ck Mk.i (q:=x9.Left) (z:=0) 3 s61 rfl rfl rfl rfl rfl ?_)))))))
        obtain⟨x21,q57,e10⟩:=oB e10
        obtain⟨d40,rfl⟩:=((h89.mono (g34.trans (g35.trans g37)).z)).val
        obtain⟨d41,rfl⟩:=((h90.mono (g34.trans (g35.trans g37)).z)).val
        obtain⟨d42,rfl⟩:=((s61.curS (s:=Sh.sl Sh.C9) 1 rfl)).val
        obtain⟨Z38,V38,W10,g38,u10,c45,c46,-,c48,c47⟩:=Sat.call (l1:=[pts o1 (.rw 0 [vi s38.1,vi s38.2.1,vi s38.2.2.1,(vS d40 s38.2.2.2.1),(vS d41 s38.2.2.2.2.1),(vS d42 s38.2.2.2.2.2)]),It.sl (Sh.sl Sh.C9) (vS d42 s38.2.2.2.2.2) s38.2.2.2.2.2]) (l2:=[pts b1 (.rw 0 [vi x1.Kind,(vS d4 x1.Nons)]),It.mp vi vi b2 y1.2.2.2.2.2.2.1,It.mp vi vi b3 y1.2.2.2.2.2.2.2,pts b4 (.rw 0 [vi x9.Left,(vS d26 x9.Right)])]) s61
        refine au (mc rfl (mc rfl (mc rfl (mc rfl m0)))) (ih.2 (a0:=Ty.G3.mk (Ty.E8.mk s38.1 s38.2.1 s38.2.2.1 s38.2.2.2.1) s38.2.2.2.2.1 s38.2.2.2.2.2) c45 (h89.mono ((g34.trans (g35.trans g37)).trans g38).z) (h90.mono ((g34.trans (g35.trans g37)).trans g38).z) (h233.mono g38.z) q57) fun _ H38 i27=>?_
        obtain⟨w52,w53,w54,rfl,s63⟩:=i27
        have s64:=c47 _ _ s63
        obtain⟨Z39,V39,g39,s65,h248⟩:=(s64.pull 1 rfl).frzR
        obtain⟨Z40,V40,g40,s66,h249⟩:=(s65.pull 1 rfl).frzR
        refine ae ?_
        obtain rfl:=oJ e10
        exact k11 _ _ ⟨_,_,_,_,_,(g34.trans (g35.trans (g37.trans (g38.trans (g39.trans g40))))),(s66.pick [0,1,2,3,4] rfl),h234,h235,h236,h237,h238,h239,h243,h244,h245,(h248.mono g40.z),h249⟩
       replace e10:=bb q40 e10
       refine af (aa h186 (am h188 (ak 0 s42 rfl rfl rfl rfl (ck Mk.i (q:=x9.Left) (z:=0) 4 s42 rfl rfl rfl rfl rfl (aa (v:=vi ((Pu.mget x9.Left y1.2.2.2.2.2.2.1).getD 0)) rfl (aa (v:=vi 0) rfl (ae (ah (af (aa h189 (aD rfl (h100).len (aa (v:=vi 0) rfl (ae ?_)))))))))))))
       obtain⟨y14,q60,e10⟩:=oB e10
       refine ay (aV (xs:=x9.Right) (fun(i28:Nat) (s67:(Int×Int×Int×(List Ty.E2)×(List Ty.B6)×(List (List Ty.C9))×Int×Int)) tm H=>tm 118=vi i28∧∃(Z41 V41:PH) (w55:Value) (w56:Value) (w57:Value),Gw Z24 V24 Z41 V41∧Sat Z41 V41 H [pts o1 (.rw 0 [vi s67.1,vi s67.2.1,vi s67.2.2.1,w56,w57,w55]),It.sl (Sh.sl Sh.C9) w55 s67.2.2.2.2.2.1,pts b1 (.rw 0 [vi x1.Kind,(vS d4 x1.Nons)]),It.mp vi vi b2 y1.2.2.2.2.2.2.1,It.mp vi vi b3 y1.2.2.2.2.2.2.2,pts b4 (.rw 0 [vi x9.Left,(vS d26 x9.Right)])]∧tm 0=(pV o1 0)∧tm 2=vi a2∧tm 3=vi a3∧tm 8=(pV b1 0)∧tm 9=(.map (some b2))∧tm 10=(.map (some b3))∧tm 14=(pV b4 0)∧tm 17=(vS d26 x9.Right)∧tm 21=vi s67.2.2.2.2.2.2.1∧tm 22=vi s67.2.2.2.2.2.2.2∧tm 93=(vS d23 y3.2.2.2.1)∧tm 94=(vN y3.2.2.2.1)∧tm 95=(vJ i14)∧tm 116=(vS d26 x9.Right)∧tm 117=(vN x9.Right)∧RdS Sh.E2 Z41 w56 s67.2.2.2.1∧RdS Sh.B6 Z41 w57 s67.2.2.2.2.1) (fun i28 x22 s67 s69 tm H40 q58 q59 j3 e14 k16=>?_) (fun tm H39 jd=>?_) q60 ⟨rfl,_,_,_,_,_,Gw.refl _ _,(s42.pick [1,2,3,4,5,0] rfl),h182,h183,h184,h185,h186,h187,h188,h189,rfl,rfl,h190,h191,h192,rfl,rfl,h89,h90⟩)
       ·obtain⟨hti2,Z41,V41,w55,w56,w57,g41,s68,h252,h253,h254,h255,h256,h257,h258,h259,h260,h261,h262,h263,h264,h265,h266,h250,h251⟩:=j3
        unfold P.B4.b2 at e14
        refine af (ao hti2 h266 (ae (ah (be rfl (Int.ofNat_lt.2 q59) (ar (ah (ay (af (aa hti2 (aJ (v:=vS d26 x9.Right) h265 hti2 (h100.mono g41.z) rfl (Pu.ix_nat.trans q58) fun p16 q61=>cO rfl (h100.mono g41.z) s68.z rfl q61 (Pu.ix_nat.trans q58) fun c49 h267=>?_))))))))))
        obtain rfl:=h267
        refine bv s68 fun b5 H41 s70=>aa (v:=vJ i28) rfl (aP (us':=[(.bool x22.Term),vi x22.N]) 0 s70 rfl rfl rfl rfl rfl rfl rfl fun H42 s71=>ae (af (am rfl (ak 0 s71 rfl rfl rfl rfl (cy rfl (aa (v:=.bool (!x22.Term)) rfl ?_))))))
        obtain⟨y15,e15,e14⟩:=oB e14
        refine cv 6 (I:=fun tm H=>∃(Z42 V42:PH),Gw Z41 V41 Z42 V42∧Sat Z42 V42 H [pts o1 (.rw 0 [vi s67.1,vi s67.2.1,vi s67.2.2.1,w56,w57,w55]),It.sl (Sh.sl Sh.C9) w55 s67.2.2.2.2.2.1,pts b1 (.rw 0 [vi x1.Kind,(vS d4 x1.Nons)]),It.mp vi vi b2 y1.2.2.2.2.2.2.1,It.mp vi vi b3 y1.2.2.2.2.2.2.2,pts b4 (.rw 0 [vi x9.Left,(vS d26 x9.Right)]),pts b5 (.rw 0 [(.bool x22.Term),vi x22.N])]∧tm 0=(pV o1 0)∧tm 2=vi a2∧tm 3=vi a3∧tm 8=(pV b1 0)∧tm 9=(.map (some b2))∧tm 10=(.map (some b3))∧tm 14=(pV b4 0)∧tm 17=(vS d26 x9.Right)∧tm 21=vi s67.2.2.2.2.2.2.1∧tm 22=vi s67.2.2.2.2.2.2.2∧tm 23=(vJ i28)∧tm 24=(pV b5 0)∧tm 93=(vS d23 y3.2.2.2.1)∧tm 94=(vN y3.2.2.2.1)∧tm 95=(vJ i14)∧tm 116=(vS d26 x9.Right)∧tm 117=(vN x9.Right)∧tm 118=(vJ i28)∧tm 132=(.bool y15)) (fun k17=>?_) ?_
        ·rcases Bool.eq_false_or_eq_true (!x22.Term) with q62|q62
         ·replace e15:=ax q62 e15
          refine aC rfl q62 (am h255 (aC rfl q62 (ak 3 s71 rfl rfl rfl rfl (aC rfl q62 (am rfl (aC rfl q62 (ak 0 s71 rfl rfl rfl rfl (aC rfl q62 ?_))))))))
          obtain⟨x23,q63,e15⟩:=oB e15
          obtain⟨Z43,V43,W11,g43,u11,c50,c51,-,c53,c52⟩:=Sat.call (l1:=[]) s71
          refine au (mc rfl (mc rfl m0)) (X.C4 nd.C4 c50 (h2.mono (((g9.trans (g10.trans (g24.trans g41))).trans g43).z.trans c50.zv)) q63) fun _ H44 i29=>?_
          obtain⟨rfl,s73⟩:=i29
          have s74:=c52 _ _ s73
          refine aY (a:=.bool x23) rfl q62 rfl ?_
          obtain rfl:=oJ e15
          exact k17 _ _ ⟨_,_,g43,(s74.pick [1,2,3,4,5,6,0] rfl),h252,h253,h254,h255,h256,h257,h258,h259,h260,h261,rfl,rfl,h262,h263,h264,h265,h266,hti2,rfl⟩
         replace e15:=aS q62 e15
         refine aE rfl q62 (aE rfl q62 (aE rfl q62 (aE rfl q62 (aE rfl q62 (aX (b:=.bool false) rfl q62 rfl ?_)))))
         obtain rfl:=oJ e15
         exact k17 _ _ ⟨_,_,Gw.refl _ _,(s71.pick [1,2,3,4,5,6,0] rfl),h252,h253,h254,h255,h256,h257,h258,h259,h260,h261,rfl,rfl,h262,h263,h264,h265,h266,hti2,rfl⟩
        intro _ H43 i30
        obtain⟨Z42,V42,g42,s72,h268,h269,h270,h271,h272,h273,h274,h275,h276,h277,h278,h279,h280,h281,h282,h283,h284,h285,h286⟩:=i30
        refine ae ?_
        obtain⟨y16,e16,e14⟩:=oB e14
        refine bf (I:=fun tm H=>∃(Z44 V44:PH) (w58:Value) (w59:Value) (w60:Value),Gw Z42 V42 Z44 V44∧Sat Z44 V44 H [pts o1 (.rw 0 [vi y16.1,vi y16.2.1,vi y16.2.2.1,w59,w60,w58]),It.sl (Sh.sl Sh.C9) w58 y16.2.2.2.2.2.1,pts b1 (.rw 0 [vi x1.Kind,(vS d4 x1.Nons)]),It.mp vi vi b2 y1.2.2.2.2.2.2.1,It.mp vi vi b3 y1.2.2.2.2.2.2.2,pts b4 (.rw 0 [vi x9.Left,(vS d26 x9.Right)])]∧tm 0=(pV o1 0)∧tm 2=vi a2∧tm 3=vi a3∧tm 8=(pV b1 0)∧tm 9=(.map (some b2))∧tm 10=(.map (some b3))∧tm 14=(pV b4 0)∧tm 17=(vS d26 x9.Right)∧tm 21=vi y16.2.2.2.2.2.2.1∧tm 22=vi y16.2.2.2.2.2.2.2∧tm 93=(vS d23 y3.2.2.2.1)∧tm 94=(vN y3.2.2.2.1)∧tm 95=(vJ i14)∧tm 116=(vS d26 x9.Right)∧tm 117=(vN x9.Right)∧tm 118=(vJ i28)∧RdS Sh.E2 Z44 w59 y16.2.2.2.1∧RdS Sh.B6 Z44 w60 y16.2.2.2.2.1) (fun k18=>?_) ?_
        ·refine bx h286 (fun q64=>?_) (fun q64=>?_)
         ·replace e16:=ax q64 e16
          refine ah (aA s72 fun n5 H46 s76 q65 d43=>aj h268 (aj h276 (aj h275 (aj h277 (aj h278 ?_)))))
          obtain⟨x24,q66,e16⟩:=oB e16
          refine d_slc (RdS.low (h100.mono (g41.trans g42).z) s76.z q65) rfl rfl rfl h100 ((g41.trans g42).z.trans s76.z) rfl q66 fun w61 h305=>aj h272 (bt h279 (aZ (q65 _ _ (an.2 ⟨s76.curB 6 rfl,by simp⟩)) 6 s76 rfl rfl rfl rfl (eB Mk.i (q:=x22.N) (z:=0) 3 s76 rfl rfl rfl rfl rfl ?_)))
          obtain⟨x25,q67,e16⟩:=oB e16
          obtain⟨d44,rfl⟩:=((h250.mono g42.z)).val
          obtain⟨d45,rfl⟩:=((h251.mono g42.z)).val
          obtain⟨d46,rfl⟩:=((s76.curS (s:=Sh.sl Sh.C9) 1 rfl)).val
          obtain⟨Z45,V45,W12,g45,u12,c54,c55,-,c57,c56⟩:=Sat.call (l1:=[pts o1 (.rw 0 [vi s67.1,vi s67.2.1,vi s67.2.2.1,(vS d44 s67.2.2.2.1),(vS d45 s67.2.2.2.2.1),(vS d46 s67.2.2.2.2.2.1)]),It.sl (Sh.sl Sh.C9) (vS d46 s67.2.2.2.2.2.1) s67.2.2.2.2.2.1]) (l2:=[pts b1 (.rw 0 [vi x1.Kind,(vS d4 x1.Nons)]),It.mp vi vi b2 y1.2.2.2.2.2.2.1,It.mp vi vi b3 y1.2.2.2.2.2.2.2,pts b4 (.rw 0 [vi x9.Left,(vS d26 x9.Right)]),pts b5 (.rw 0 [(.bool x22.Term),vi x22.N])]) s76
          refine bK (mc rfl (mc rfl (mc rfl (mc rfl m0)))) (ih.2 (a0:=Ty.G3.mk (Ty.E8.mk s67.1 s67.2.1 s67.2.2.1 s67.2.2.2.1) s67.2.2.2.2.1 s67.2.2.2.2.2.1) c54 (h250.mono (g42.trans g45).z) (h251.mono (g42.trans g45).z) (h305.mono ((g41.trans g42).trans g45).z) q67) fun _ H47 i31 k19=>?_
          have d47:=d43.keep k19
          obtain⟨w62,w63,w64,rfl,s77⟩:=i31
          have s78:=c56 _ _ s77
          obtain⟨Z46,V46,g46,s79,h306⟩:=(s78.pull 1 rfl).frzR
          obtain⟨Z47,V47,g47,s80,h307⟩:=(s79.pull 1 rfl).frzR
          refine aQ (cV rfl (ta4 (ta2 (tre (tl4 (trl tr0))))) (ta2 (tre (tl8 (trl tr0)))) (tra (tre (tl8 (tl2 tr0)))) (jw ek rfl rfl rfl h100 (g41.z.trans (g42.z.trans s76.z)) (g41.z.trans (g42.z.trans s76.z)) rfl q66) (jw ek rfl rfl rfl h100 (g41.z.trans (g42.z.trans s76.z)) (g41.z.trans (g42.z.trans s76.z)) rfl q66) aK) (ap (P:=fun tm=>tm 0=(pV o1 0)∧tm 2=vi a2∧tm 3=vi a3∧tm 8=(pV b1 0)∧tm 9=(.map (some b2))∧tm 10=(.map (some b3))∧tm 14=(pV b4 0)∧tm 17=(vS d26 x9.Right)∧tm 23=(vJ i28)∧tm 24=(pV b5 0)∧tm 93=(vS d23 y3.2.2.2.1)∧tm 94=(vN y3.2.2.2.1)∧tm 95=(vJ i14)∧tm 116=(vS d26 x9.Right)∧tm 117=(vN x9.Right)∧tm 118=(vJ i28)∧True) ⟨h268,h269,h270,h271,h272,h273,h274,h275,h278,h279,h280,h281,h282,h283,h284,h285,trivial⟩ ?_)
          intro _ i32
          obtain⟨h308,h309,h310,h311,h312,h313,h314,h315,h316,h317,h318,h319,h320,h321,h322,h323,-⟩:=i32
          refine bq (aa h313 (am h317 (ak 6 s80 rfl rfl rfl rfl (ck Mk.i (q:=x22.N) (z:=0) 4 s80 rfl rfl rfl rfl rfl (aa h316 (az rfl rfl (aa (v:=vi ((Pu.mget x22.N y1.2.2.2.2.2.2.2).getD 0)) rfl (aa (v:=vi (Pu.W ((i28:Int)+1))) rfl (ae ?_)))))))))
          obtain rfl:=oJ e16
          exact k18 _ _ ⟨_,_,_,_,_,(g45.trans (g46.trans g47)),(s80.pick [0,1,2,3,4,5] rfl),h308,h309,h310,h311,h312,h313,h314,h315,rfl,rfl,h318,h319,h320,h321,h322,h323,(h306.mono g47.z),h307⟩
         replace e16:=aS q64 e16
         refine ar ?_
         obtain rfl:=oJ e16
         exact k18 _ _ ⟨_,_,_,_,_,Gw.refl _ _,(s72.pick [0,1,2,3,4,5] rfl),h268,h269,h270,h271,h272,h273,h274,h275,h276,h277,h280,h281,h282,h283,h284,h285,(h250.mono g42.z),(h251.mono g42.z)⟩
        intro _ H45 i33
        obtain⟨Z44,V44,w58,w59,w60,g44,s75,h289,h290,h291,h292,h293,h294,h295,h296,h297,h298,h299,h300,h301,h302,h303,h304,h287,h288⟩:=i33
        refine aF (bq (az h304 rfl (aa (v:=vi (Pu.W ((i28:Int)+1))) rfl (ae ?_))))
        obtain rfl:=oJ e14
        exact k16 _ _ ⟨(iv rfl (bE q59 (h100).bd)),_,_,_,_,_,(g41.trans (g42.trans g44)),s75,h289,h290,h291,h292,h293,h294,h295,h296,h297,h298,h299,h300,h301,h302,h303,h287,h288⟩
       obtain⟨hte2,Z48,V48,w65,w66,w67,g48,s81,h326,h327,h328,h329,h330,h331,h332,h333,h334,h335,h336,h337,h338,h339,h340,h324,h325⟩:=jd
       refine af (ao hte2 h340 (ae (ah (bc rfl (Int.lt_irrefl _) (aR (aU (aU (bT (aA s81 fun n6 H49 s82 q68 d48=>aj h326 (aj h334 (aj h333 (aj h335 ?_))))))))))))
       obtain⟨x26,q69,e10⟩:=oB e10
       refine jG (RdS.low (h100.mono g48.z) s82.z q68) rfl rfl h100 (g48.z.trans s82.z) rfl q69 fun w68 h341=>aj h331 (bt h332 (aZ (q68 _ _ (an.2 ⟨s82.curB 5 rfl,by simp⟩)) 5 s82 rfl rfl rfl rfl (eB Mk.i (q:=x9.Left) (z:=0) 4 s82 rfl rfl rfl rfl rfl ?_)))
       obtain⟨x27,q70,e10⟩:=oB e10
       obtain⟨d49,rfl⟩:=(h324).val
       obtain⟨d50,rfl⟩:=(h325).val
       obtain⟨d51,rfl⟩:=((s82.curS (s:=Sh.sl Sh.C9) 1 rfl)).val
       obtain⟨Z49,V49,W13,g49,u13,c58,c59,-,c61,c60⟩:=Sat.call (l1:=[pts o1 (.rw 0 [vi y14.1,vi y14.2.1,vi y14.2.2.1,(vS d49 y14.2.2.2.1),(vS d50 y14.2.2.2.2.1),(vS d51 y14.2.2.2.2.2.1)]),It.sl (Sh.sl Sh.C9) (vS d51 y14.2.2.2.2.2.1) y14.2.2.2.2.2.1]) (l2:=[pts b1 (.rw 0 [vi x1.Kind,(vS d4 x1.Nons)]),It.mp vi vi b2 y1.2.2.2.2.2.2.1,It.mp vi vi b3 y1.2.2.2.2.2.2.2,pts b4 (.rw 0 [vi x9.Left,(vS d26 x9.Right)])]) s82
       refine bK (mc rfl (mc rfl (mc rfl (mc rfl m0)))) (ih.2 (a0:=Ty.G3.mk (Ty.E8.mk y14.1 y14.2.1 y14.2.2.1 y14.2.2.2.1) y14.2.2.2.2.1 y14.2.2.2.2.2.1) c58 (h324.mono g49.z) (h325.mono g49.z) (h341.mono (g48.trans g49).z) q70) fun _ H50 i34 k20=>?_
       have d52:=d48.keep k20
       obtain⟨w69,w70,w71,rfl,s83⟩:=i34
       have s84:=c60 _ _ s83
       obtain⟨Z50,V50,g50,s85,h342⟩:=(s84.pull 1 rfl).frzR
       obtain⟨Z51,V51,g51,s86,h343⟩:=(s85.pull 1 rfl).frzR
       refine aQ (cV rfl (ta4 (ta2 (tre (tl4 tr0)))) (ta2 (tre (tl8 tr0))) (tra (tre (tl8 (trl tr0)))) (fp ek rfl rfl h100 (g48.z.trans s82.z) (g48.z.trans s82.z) rfl q69) (fp ek rfl rfl h100 (g48.z.trans s82.z) (g48.z.trans s82.z) rfl q69) aK) ?_
       obtain rfl:=oJ e10
       exact k11 _ _ ⟨_,_,_,_,_,(g48.trans (g49.trans (g50.trans g51))),(s86.pick [0,1,2,3,4] rfl),h326,h327,h328,h329,h330,h331,h336,h337,h338,(h342.mono g51.z),h343⟩
      intro _ H31 i35
      obtain⟨Z33,V33,w47,w48,w49,g33,s55,h196,h197,h198,h199,h200,h201,h202,h203,h204,h194,h195⟩:=i35
      obtain rfl:=oJ e6
      exact k6 _ _ ⟨_,_,_,_,_,g33,s55,h196,h197,h198,h199,h200,h201,h202,h203,h204,h194,h195⟩
     intro _ H23 i36
     obtain⟨Z25,V25,w39,w40,w41,g25,s43,h114,h115,h116,h117,h118,h119,h120,h121,h122,h112,h113⟩:=i36
     refine aF (aF (bq (az h122 rfl (aa (v:=vi (Pu.W ((i14:Int)+1))) rfl (ae ?_)))))
     obtain rfl:=oJ e5
     exact k5 _ _ ⟨(iv rfl (bE q18 (h58).bd)),_,_,_,_,_,(g24.trans g25),s43,h114,h115,h116,h117,h118,h119,h120,h121,h112,h113⟩
    obtain⟨hte1,Z52,V52,w72,w73,w74,g52,s87,h346,h347,h348,h349,h350,h351,h352,h353,h344,h345⟩:=jd
    refine af (ao hte1 h353 (ae (ah (bc rfl (Int.lt_irrefl _) (aR (aU (aU (bT ?_))))))))
    obtain⟨d53,rfl⟩:=(h344).val
    obtain⟨d54,rfl⟩:=(h345).val
    obtain⟨d55,rfl⟩:=((s87.curS (s:=Sh.sl Sh.C9) 1 rfl)).val
    obtain rfl:=oJ e
    refine dk ?_
    exact⟨.inl rfl,_,rfl,_,_,_,rfl,((((s87.push (dD (cR h344))).push (dD (cR h345))).pick [2,1,0,3] rfl).weak (g9.trans (g10.trans g52)) hs.zv)⟩
   ·intro Z V H v1 v2 v3 o1 v4 a0 a1 a2 a3 hs hp1 hp2 hp4 r e
    rw [P.F0] at e
    refine bB nd.own_approx_nfa_path (ah (af (aa (v:=v4) rfl (aD rfl (hp4).len (aa (v:=vi 0) rfl (ae ?_))))))
    obtain⟨y1,q3,e⟩:=oB e
    refine ay (aV (xs:=a2) (fun(i1:Nat) (s1:(Int×Int×Int×(List Ty.E2)×(List Ty.B6)×(List (List Ty.C9))×Int)) tm H=>tm 13=vi i1∧∃(Z1 V1:PH) (w1:Value) (w2:Value) (w3:Value),Gw Z V Z1 V1∧Sat Z1 V1 H [pts o1 (.rw 0 [vi s1.1,vi s1.2.1,vi s1.2.2.1,w2,w3,w1]),It.sl (Sh.sl Sh.C9) w1 s1.2.2.2.2.2.1]∧tm 0=(pV o1 0)∧tm 1=vi s1.2.2.2.2.2.2∧tm 2=v4∧tm 3=vi a3∧tm 11=v4∧tm 12=(vN a2)∧RdS Sh.E2 Z1 w2 s1.2.2.2.1∧RdS Sh.B6 Z1 w3 s1.2.2.2.2.1) (fun i1 x1 s1 s3 tm H2 q1 q2 j1 e1 k1=>?_) (fun tm H1 jd=>?_) q3 ⟨rfl,_,_,_,_,_,Gw.refl _ _,hs,rfl,rfl,rfl,rfl,rfl,rfl,hp1,hp2⟩)
    ·obtain⟨hti0,Z1,V1,w1,w2,w3,g1,s2,h3,h4,h5,h6,h7,h8,h1,h2⟩:=j1
     unfold P.F0.b0 at e1
     refine af (ao hti0 h8 (ae (ah (be rfl (Int.ofNat_lt.2 q2) (ar (ah (ay (af (aa hti0 (aJ (v:=v4) h7 hti0 (hp4.mono g1.z) rfl (Pu.ix_nat.trans q1) fun p1 q4=>cO rfl (hp4.mono g1.z) s2.z rfl q4 (Pu.ix_nat.trans q1) fun c1 h9=>?_))))))))))
     obtain rfl:=h9
     refine bv s2 fun b1 H3 s4=>aa (v:=vJ i1) rfl (aP (us':=[(.bool x1.Term),vi x1.N]) 0 s4 rfl rfl rfl rfl rfl rfl rfl fun H4 s5=>ae (af (aa h6 (aa (v:=vi a3) rfl (ae (ah (af (aa (v:=vJ i1) rfl (aa h5 (aD rfl ((hp4.mono g1.z)).len (bz rfl rfl (ao rfl rfl (ae (ap (P:=fun tm=>tm 0=(pV o1 0)∧tm 1=vi s1.2.2.2.2.2.2∧tm 2=v4∧tm 3=vi a3∧tm 9=(pV b1 0)∧tm 10=vi a3∧tm 11=v4∧tm 12=(vN a2)∧tm 13=(vJ i1)∧tm 23=(.bool (decide ((i1:Int)<(Pu.W ((a2.length:Int)-1)))))∧True) ⟨h3,h4,h5,h6,rfl,rfl,h7,h8,hti0,rfl,trivial⟩ ?_))))))))))))))
     intro _ i2
     obtain⟨h10,h11,h12,h13,h14,h15,h16,h17,h18,h19,-⟩:=i2
     obtain⟨y2,e2,e1⟩:=oB e1
     refine bf (I:=fun tm H=>∃(Z2 V2:PH) (w4:Value) (w5:Value) (w6:Value),Gw Z1 V1 Z2 V2∧Sat Z2 V2 H [pts o1 (.rw 0 [vi y2.1,vi y2.2.1,vi y2.2.2.1,w5,w6,w4]),It.sl (Sh.sl Sh.C9) w4 y2.2.2.2.2.2.1,pts b1 (.rw 0 [(.bool x1.Term),vi x1.N])]∧tm 0=(pV o1 0)∧tm 1=vi s1.2.2.2.2.2.2∧tm 2=v4∧tm 3=vi a3∧tm 9=(pV b1 0)∧tm 10=vi y2.2.2.2.2.2.2∧tm 11=v4∧tm 12=(vN a2)∧tm 13=(vJ i1)∧RdS Sh.E2 Z2 w5 y2.2.2.2.1∧RdS Sh.B6 Z2 w6 y2.2.2.2.2.1) (fun k2=>?_) ?_
     ·refine aI h19 (fun q5=>?_) (fun q5=>?_)
      ·replace e2:=ax q5 e2
       refine bq (aa h10 ?_)
       obtain⟨x2,q6,e2⟩:=oB e2
       obtain⟨d1,rfl⟩:=(h1).val
       obtain⟨d2,rfl⟩:=(h2).val
       obtain⟨d3,rfl⟩:=((s5.curS (s:=Sh.sl Sh.C9) 2 rfl)).val
       obtain⟨Z3,V3,W1,g3,u1,c2,c3,-,c5,c4⟩:=Sat.call (l1:=[pts o1 (.rw 0 [vi s1.1,vi s1.2.1,vi s1.2.2.1,(vS d1 s1.2.2.2.1),(vS d2 s1.2.2.2.2.1),(vS d3 s1.2.2.2.2.2.1)]),It.sl (Sh.sl Sh.C9) (vS d3 s1.2.2.2.2.2.1) s1.2.2.2.2.2.1]) (l2:=[pts b1 (.rw 0 [(.bool x1.Term),vi x1.N])]) (s5.pick [1,2,0] rfl)
       refine au (mc rfl m0) (X.F6 nd.F6 (a0:=Ty.G3.mk (Ty.E8.mk s1.1 s1.2.1 s1.2.2.1 s1.2.2.2.1) s1.2.2.2.2.1 s1.2.2.2.2.2.1) c2 (h1.mono g3.z) (h2.mono g3.z) q6) fun _ H6 i3=>?_
       obtain⟨w7,w8,w9,rfl,s7⟩:=i3
       have s8:=c4 _ _ s7
       obtain⟨Z4,V4,g4,s9,h31⟩:=(s8.pull 1 rfl).frzR
       obtain⟨Z5,V5,g5,s10,h32⟩:=(s9.pull 1 rfl).frzR
       refine aa (v:=vi x2.2) rfl (ae ?_)
       obtain rfl:=oJ e2
       exact k2 _ _ ⟨_,_,_,_,_,(g3.trans (g4.trans g5)),s10,h10,h11,h12,h13,h14,rfl,h16,h17,h18,(h31.mono g5.z),h32⟩
      replace e2:=bb q5 e2
      refine ar ?_
      obtain rfl:=oJ e2
      exact k2 _ _ ⟨_,_,_,_,_,Gw.refl _ _,(s5.pick [1,2,0] rfl),h10,h11,h12,h13,h14,h15,h16,h17,h18,h1,h2⟩
     intro _ H5 i4
     obtain⟨Z2,V2,w4,w5,w6,g2,s6,h22,h23,h24,h25,h26,h27,h28,h29,h30,h20,h21⟩:=i4
     refine ah (af (am h26 (ak 2 s6 rfl rfl rfl rfl (ae ?_))))
     obtain⟨y3,e3,e1⟩:=oB e1
     refine bf (I:=fun tm H=>∃(Z6 V6:PH) (w10:Value) (w11:Value) (w12:Value),Gw Z2 V2 Z6 V6∧Sat Z6 V6 H [pts o1 (.rw 0 [vi y3.1,vi y3.2.1,vi y3.2.2.1,w11,w12,w10]),It.sl (Sh.sl Sh.C9) w10 y3.2.2.2.2.2]∧tm 0=(pV o1 0)∧tm 2=v4∧tm 3=vi a3∧tm 10=vi y2.2.2.2.2.2.2∧tm 11=v4∧tm 12=(vN a2)∧tm 13=(vJ i1)∧RdS Sh.E2 Z6 w11 y3.2.2.2.1∧RdS Sh.B6 Z6 w12 y3.2.2.2.2.1) (fun k3=>?_) ?_
     ·refine bx rfl (fun q7=>?_) (fun q7=>?_)
      ·replace e3:=ax q7 e3
       refine bq (aa h22 (aa h23 (am h26 (ak 2 s6 rfl rfl rfl rfl (aa h27 ?_)))))
       obtain⟨x3,q8,e3⟩:=oB e3
       obtain⟨d4,rfl⟩:=(h20).val
       obtain⟨d5,rfl⟩:=(h21).val
       obtain⟨d6,rfl⟩:=((s6.curS (s:=Sh.sl Sh.C9) 1 rfl)).val
       obtain⟨Z7,V7,W2,g7,u2,c6,c7,-,c9,c8⟩:=Sat.call (l1:=[pts o1 (.rw 0 [vi y2.1,vi y2.2.1,vi y2.2.2.1,(vS d4 y2.2.2.2.1),(vS d5 y2.2.2.2.2.1),(vS d6 y2.2.2.2.2.2.1)]),It.sl (Sh.sl Sh.C9) (vS d6 y2.2.2.2.2.2.1) y2.2.2.2.2.2.1]) (l2:=[pts b1 (.rw 0 [(.bool x1.Term),vi x1.N])]) s6
       refine au (mc rfl (mc rfl (mc rfl (mc rfl m0)))) (X.F8 nd.F8 (a0:=Ty.G3.mk (Ty.E8.mk y2.1 y2.2.1 y2.2.2.1 y2.2.2.2.1) y2.2.2.2.2.1 y2.2.2.2.2.2.1) c6 (h20.mono g7.z) (h21.mono g7.z) q8) fun _ H8 i5=>?_
       obtain⟨w13,w14,w15,rfl,s12⟩:=i5
       have s13:=c8 _ _ s12
       obtain⟨Z8,V8,g8,s14,h42⟩:=(s13.pull 1 rfl).frzR
       obtain⟨Z9,V9,g9,s15,h43⟩:=(s14.pull 1 rfl).frzR
       refine ae ?_
       obtain rfl:=oJ e3
       exact k3 _ _ ⟨_,_,_,_,_,(g7.trans (g8.trans g9)),(s15.pick [0,1] rfl),h22,h24,h25,h27,h28,h29,h30,(h42.mono g9.z),h43⟩
      replace e3:=aS q7 e3
      refine bq (aa h22 (am h26 (ak 2 s6 rfl rfl rfl rfl (aa h23 (aa h27 ?_)))))
      obtain⟨x4,q9,e3⟩:=oB e3
      obtain⟨d7,rfl⟩:=(h20).val
      obtain⟨d8,rfl⟩:=(h21).val
      obtain⟨d9,rfl⟩:=((s6.curS (s:=Sh.sl Sh.C9) 1 rfl)).val
      obtain⟨Z10,V10,W3,g10,u3,c10,c11,-,c13,c12⟩:=Sat.call (l1:=[pts o1 (.rw 0 [vi y2.1,vi y2.2.1,vi y2.2.2.1,(vS d7 y2.2.2.2.1),(vS d8 y2.2.2.2.2.1),(vS d9 y2.2.2.2.2.2.1)]),It.sl (Sh.sl Sh.C9) (vS d9 y2.2.2.2.2.2.1) y2.2.2.2.2.2.1]) (l2:=[pts b1 (.rw 0 [(.bool x1.Term),vi x1.N])]) s6
      refine au (mc rfl (mc rfl (mc rfl (mc rfl m0)))) (ih.1 (a0:=Ty.G3.mk (Ty.E8.mk y2.1 y2.2.1 y2.2.2.1 y2.2.2.2.1) y2.2.2.2.2.1 y2.2.2.2.2.2.1) c10 (h20.mono g10.z) (h21.mono g10.z) q9) fun _ H9 i6=>?_
      obtain⟨w16,w17,w18,rfl,s16⟩:=i6
      have s17:=c12 _ _ s16
      obtain⟨Z11,V11,g11,s18,h44⟩:=(s17.pull 1 rfl).frzR
      obtain⟨Z12,V12,g12,s19,h45⟩:=(s18.pull 1 rfl).frzR
      refine ae ?_
      obtain rfl:=oJ e3
      exact k3 _ _ ⟨_,_,_,_,_,(g10.trans (g11.trans g12)),(s19.pick [0,1] rfl),h22,h24,h25,h27,h28,h29,h30,(h44.mono g12.z),h45⟩
     intro _ H7 i7
     obtain⟨Z6,V6,w10,w11,w12,g6,s11,h35,h36,h37,h38,h39,h40,h41,h33,h34⟩:=i7
     refine bq (aa h38 (aa (v:=vi y2.2.2.2.2.2.2) rfl (ae (aF (bq (az h41 rfl (aa (v:=vi (Pu.W ((i1:Int)+1))) rfl (ae ?_))))))))
     obtain rfl:=oJ e1
     exact k1 _ _ ⟨(iv rfl (bE q2 (hp4).bd)),_,_,_,_,_,(g1.trans (g2.trans g6)),s11,h35,rfl,h36,h37,h39,h40,h33,h34⟩
    obtain⟨hte0,Z13,V13,w19,w20,w21,g13,s20,h48,h49,h50,h51,h52,h53,h46,h47⟩:=jd
    refine af (ao hte0 h53 (ae (ah (bc rfl (Int.lt_irrefl _) (aR (aU (aU (bT (af (aa h50 (aD rfl ((hp4.mono g13.z)).len (co rfl rfl (ae ?_)))))))))))))
    obtain⟨y4,e4,e⟩:=oB e
    refine bf (I:=fun tm H=>∃(Z14 V14:PH) (w22:Value) (w23:Value) (w24:Value),Gw Z13 V13 Z14 V14∧Sat Z14 V14 H [pts o1 (.rw 0 [vi y4.1,vi y4.2.1,vi y4.2.2.1,w23,w24,w22]),It.sl (Sh.sl Sh.C9) w22 y4.2.2.2.2.2]∧RdS Sh.E2 Z14 w23 y4.2.2.2.1∧RdS Sh.B6 Z14 w24 y4.2.2.2.2.1) (fun k4=>?_) ?_
    ·refine aI rfl (fun q10=>?_) (fun q10=>?_)
     ·replace e4:=ax q10 e4
      refine bq (aa h48 (aa h49 (aa h51 ?_)))
      obtain⟨x5,q11,e4⟩:=oB e4
      obtain⟨d10,rfl⟩:=(h46).val
      obtain⟨d11,rfl⟩:=(h47).val
      obtain⟨d12,rfl⟩:=((s20.curS (s:=Sh.sl Sh.C9) 1 rfl)).val
      obtain⟨Z15,V15,W4,g15,u4,c14,c15,-,c17,c16⟩:=Sat.call (l1:=[pts o1 (.rw 0 [vi y1.1,vi y1.2.1,vi y1.2.2.1,(vS d10 y1.2.2.2.1),(vS d11 y1.2.2.2.2.1),(vS d12 y1.2.2.2.2.2.1)]),It.sl (Sh.sl Sh.C9) (vS d12 y1.2.2.2.2.2.1) y1.2.2.2.2.2.1]) (l2:=[]) s20
      refine au (mc rfl (mc rfl (mc rfl (mc rfl m0)))) (X.F8 nd.F8 (a0:=Ty.G3.mk (Ty.E8.mk y1.1 y1.2.1 y1.2.2.1 y1.2.2.2.1) y1.2.2.2.2.1 y1.2.2.2.2.2.1) c14 (h46.mono g15.z) (h47.mono g15.z) q11) fun _ H12 i8=>?_
      obtain⟨w25,w26,w27,rfl,s22⟩:=i8
      have s23:=c16 _ _ s22
      obtain⟨Z16,V16,g16,s24,h56⟩:=(s23.pull 1 rfl).frzR
      obtain⟨Z17,V17,g17,s25,h57⟩:=(s24.pull 1 rfl).frzR
      refine ae ?_
      obtain rfl:=oJ e4
      exact k4 _ _ ⟨_,_,_,_,_,(g15.trans (g16.trans g17)),s25,(h56.mono g17.z),h57⟩
     replace e4:=bb q10 e4
     refine ar ?_
     obtain rfl:=oJ e4
     exact k4 _ _ ⟨_,_,_,_,_,Gw.refl _ _,s20,h46,h47⟩
    intro _ H11 i9
    obtain⟨Z14,V14,w22,w23,w24,g14,s21,h54,h55⟩:=i9
    obtain⟨d13,rfl⟩:=(h54).val
    obtain⟨d14,rfl⟩:=(h55).val
    obtain⟨d15,rfl⟩:=((s21.curS (s:=Sh.sl Sh.C9) 1 rfl)).val
    obtain rfl:=oJ e
    refine dk ?_
    exact⟨.inl rfl,_,rfl,_,_,_,rfl,((((s21.push (dD (cR h54))).push (dD (cR h55))).pick [2,1,0,3] rfl).weak (g13.trans g14) hs.zv)⟩
theorem X.B4 {T:FuncId→Option AFunc}(nd:Nd.B4 T){φ:Nat}{Z V:PH}{H:Hp}{v1:Value}{v2:Value}{v3:Value}{o1:Nat}{a0:Ty.G3}{a1:Int}{a2:Int}{a3:Int}(hs:Sat Z V H [pts o1 (.rw 0 [vi a0.g.Terms,vi a0.g.Nons,vi a0.g.Start,v1,v2,v3]),It.sl (Sh.sl Sh.C9) v3 a0.next_])(hp1:RdS Sh.E2 Z v1 a0.g.Rules)(hp2:RdS Sh.B6 Z v2 a0.of_){r:Ty.G3}(e:P.B4 φ a0 a1 a2 a3=some r):
 G T I.B4 [(pV o1 0),vi a1,vi a2,vi a3] H (fun rv H'=>∃(u1:Value) (u2:Value) (u3:Value),rv=undef∧Sat Z V H' [pts o1 (.rw 0 [vi r.g.Terms,vi r.g.Nons,vi r.g.Start,u1,u2,u3]),Sh.it (Sh.ro (Sh.sl Sh.E2)) [u1] r.g.Rules,Sh.it (Sh.ro (Sh.sl Sh.B6)) [u2] r.of_,It.sl (Sh.sl Sh.C9) u3 r.next_]):=(X.L9 nd φ).1 hs hp1 hp2 e
structure Nd.F4 (T:FuncId→Option AFunc):Prop where
 own:Has T I.F4 F.F4
theorem X.F4 (nd:Nd.F4 T){v1:Value}{a0:(List Int)}(hs:Sat Z V H [])(hp1:RdS Sh.int V v1 a0){r:(List Int)}(e:P.F4 a0=some r):
 G T I.F4 [v1] H (fun rv H'=>∃(u1:Value),rv=u1∧Sat Z V H' [It.sl Sh.int u1 r]):=by
 unfold P.F4 at e
 refine bB nd.own (af (aa (v:=.slice none 0 0) rfl (ae (ah (af (aa (v:=v1) rfl ?_))))))
 have h1:=hp1
 rcases h1 with⟨rfl,rfl⟩|⟨b0,o0,us0,x0,rfl,hn0⟩
 ·refine kr (p:=true) rfl rfl rfl ?_
  have e1:some []=some r:=by simpa [Pu.app] using e
  refine ae (c_bt rfl (af (aa (v:=.slice none 0 0) rfl (ae (aL ?_)))))
  obtain rfl:=oJ e1
  exact⟨.inr rfl,_,(ar1 rfl),_,rfl,(hs.push (aW (s:=Sh.int)))⟩
 refine kr (p:=false) rfl rfl rfl (ae (kl rfl (ar (af (bP (s:=Sh.int) (us:=[]) (qs:=[]) (xs:=[]) hs Sh.G5 rfl rfl rfl Els.nil rfl rfl fun w1 H1 s1=>aa (v:=.slice (some ⟨b0,o0,none⟩) a0.length a0.length) rfl ?_)))))
 obtain⟨x1,q1,e⟩:=oB e
 refine cn 0 s1 rfl Sh.G5 rfl rfl rfl rfl hp1 s1.v (fun h=>h) (by decide) q1 fun w2 H2 s2=>aa (v:=w2) rfl (ae (aL ?_))
 obtain rfl:=oJ e
 exact⟨.inr rfl,_,(ar1 rfl),_,rfl,s2⟩
structure Nd.D4 (T:FuncId→Option AFunc):Prop where
 own:Has T I.D4 F.D4
 G8:Nd.G8 T
theorem X.D4 (nd:Nd.D4 T){a0:Int}{a1:Int}(hs:Sat Z V H []){r:Bool}(e:P.D4 a0 a1=some r):
 G T I.D4 [vi a0,vi a1] H (fun rv H'=>rv=(.bool r)∧Sat Z V H' []):=by
 unfold P.D4 at e
 refine bB nd.own (af (aa (v:=.bool false) rfl (ae (af (aa (v:=vi a0) rfl ?_)))))
 obtain⟨x1,q1,e⟩:=oB e
 obtain⟨Z1,V1,W1,g1,u1,c1,c2,-,c4,c3⟩:=Sat.call (l1:=[]) hs
 refine au (mc rfl m0) (X.G8 nd.G8 c1 q1) fun _ H1 i1=>?_
 obtain⟨rfl,s1⟩:=i1
 have s2:=c3 _ _ s1
 refine aa (v:=.bool x1) rfl ?_
 obtain⟨y1,e1,e⟩:=oB e
 refine cv 4 (I:=fun tm H=>∃(Z2 V2:PH),Gw Z1 V1 Z2 V2∧Sat Z2 V2 H []∧tm 0=vi a0∧tm 1=vi a1∧tm 11=(.bool y1)) (fun k1=>?_) ?_
 ·rcases Bool.eq_false_or_eq_true x1 with q2|q2
  ·replace e1:=ax q2 e1
   refine aC rfl q2 (aa (v:=vi a1) rfl (aC rfl q2 ?_))
   obtain⟨x2,q3,e1⟩:=oB e1
   obtain⟨Z3,V3,W2,g3,u2,c5,c6,-,c8,c7⟩:=Sat.call (l1:=[]) s2
   refine au (mc rfl m0) (X.G8 nd.G8 c5 q3) fun _ H3 i2=>?_
   obtain⟨rfl,s4⟩:=i2
   have s5:=c7 _ _ s4
   refine aC rfl q2 (cy rfl (aY (a:=.bool (!x2)) rfl q2 rfl ?_))
   obtain rfl:=oJ e1
   exact k1 _ _ ⟨_,_,g3,s5,rfl,rfl,rfl⟩
  replace e1:=aS q2 e1
  refine aE rfl q2 (aE rfl q2 (aE rfl q2 (aX (b:=.bool false) rfl q2 rfl ?_)))
  obtain rfl:=oJ e1
  exact k1 _ _ ⟨_,_,Gw.refl _ _,s2,rfl,rfl,rfl⟩
 intro _ H2 i3
 obtain⟨Z2,V2,g2,s3,h1,h2,h3⟩:=i3
 refine aa h3 (cv 4 (I:=fun tm H=>tm 16= .bool (y1 ||(decide (a0<a1)))∧(∃(Z4 V4:PH),Gw Z2 V2 Z4 V4∧Sat Z4 V4 H [])) (fun k2=>?_) ?_)
 ·rcases Bool.eq_false_or_eq_true y1 with q4|q4
  ·refine aE rfl q4 (aE rfl q4 (aE rfl q4 (aY (a:=.bool true) rfl q4 rfl ?_)))
   exact k2 _ _ ⟨gf rfl (by first|(rw [q4];first|done|rfl)|simp [q4]),_,_,Gw.refl _ _,s3⟩
  refine aC rfl q4 (aa h1 (aC rfl q4 (aa h2 (aC rfl q4 (ao rfl rfl (aX (b:=.bool (decide (a0<a1))) rfl q4 rfl ?_))))))
  exact k2 _ _ ⟨gf rfl (by first|(rw [q4];first|done|rfl)|simp [q4]),_,_,Gw.refl _ _,s3⟩
 intro _ H4 i4
 obtain⟨h4,Z4,V4,g4,s6⟩:=i4
 refine aa h4 (ae (aL ?_))
 obtain rfl:=oJ e
 exact⟨.inr rfl,_,(ar1 rfl),rfl,(s6.weak (g1.trans (g2.trans g4)) hs.zv)⟩
structure Nd.C1 (T:FuncId→Option AFunc):Prop where
 own:Has T I.C1 F.C1
 D4:Nd.D4 T
theorem X.C1 {T:FuncId→Option AFunc}(nd:Nd.C1 T){φ:Nat}{Z V:PH}{H:Hp}{v1:Value}{a0:(List Int)}{a1:Int}{a2:Int}(hs:Sat Z V H [It.sl Sh.int v1 a0]){r:(List Int)}(e:P.C1 φ a0 a1 a2=some r):
 G T I.C1 [v1,vi a1,vi a2] H (fun rv H'=>rv=undef∧Sat Z V H' [It.sl Sh.int v1 r]):=by
 unfold P.C1 at e
 refine bB nd.own (af (aa (v:=vi a1) rfl (az rfl rfl (aa (v:=vi (Pu.W (a1+1))) rfl (ae ?_)))))
 obtain⟨y1,q3,e⟩:=oB e
 refine bf (I:=fun tm H=>∃(s3:((List Int)×Int)),y1= .out s3∧(∃(Z2 V2:PH),Gw Z V Z2 V2∧Sat Z2 V2 H [It.sl Sh.int v1 s3.1]∧tm 0=v1∧tm 1=vi a1∧tm 2=vi a2∧tm 6=vi s3.2)) (fun k4=>?_) ?_
 ·refine ay (cc (fun(s1:((List Int)×Int)) tm H=>∃(Z1 V1:PH),Gw Z V Z1 V1∧Sat Z1 V1 H [It.sl Sh.int v1 s1.1]∧tm 0=v1∧tm 1=vi a1∧tm 2=vi a2∧tm 6=vi s1.2) (fun s1 y2 tm H2 j1 e1 k1 k2 k3=>?_) q3 ⟨_,_,Gw.refl _ _,hs,rfl,rfl,rfl,rfl⟩)
  obtain⟨Z1,V1,g1,s2,h1,h2,h3,h4⟩:=j1
  unfold P.C1.b0 at e1
  refine ah (af (aa h4 (aa h3 (ao rfl rfl (ae (aI rfl (fun q4=>?_) (fun q4=>?_)))))))
  ·replace e1:=ax q4 e1
   refine ar (ah (ay (af (aa h4 (aa (v:=vi s1.2) rfl (ae ?_))))))
   obtain⟨y3,q7,e1⟩:=oB e1
   refine bf (I:=fun tm H=>∃(s7:((List Int)×Int)),y3= .out s7∧(∃(Z4 V4:PH),Gw Z1 V1 Z4 V4∧Sat Z4 V4 H [It.sl Sh.int v1 s7.1]∧tm 0=v1∧tm 1=vi a1∧tm 2=vi a2∧tm 6=vi s1.2∧tm 7=vi s7.2)) (fun k8=>?_) ?_
   ·refine ay (cc (fun(s5:((List Int)×Int)) tm H=>∃(Z3 V3:PH),Gw Z1 V1 Z3 V3∧Sat Z3 V3 H [It.sl Sh.int v1 s5.1]∧tm 0=v1∧tm 1=vi a1∧tm 2=vi a2∧tm 6=vi s1.2∧tm 7=vi s5.2) (fun s5 y4 tm H5 j2 e2 k5 k6 k7=>?_) q7 ⟨_,_,Gw.refl _ _,s2,h1,h2,h3,h4,rfl⟩)
    obtain⟨Z3,V3,g3,s6,h9,h10,h11,h12,h13⟩:=j2
    unfold P.C1.b1 at e2
    refine ah (ah (aA s6 fun n1 H7 s9 q8 d1=>aj h13 (aj h10 (jB rfl rfl (aj (v:=.bool (decide (a1<s5.2))) rfl ?_)))))
    obtain⟨y5,e3,e2⟩:=oB e2
    refine dn 11 (I:=fun tm H=>DD n1 15 (List.length F.C1.r4) H∧(∃(Z5 V5:PH),Gw Z3 V3 Z5 V5∧Sat Z5 V5 H [It.sl Sh.int v1 s5.1]∧tm 0=v1∧tm 1=vi a1∧tm 2=vi a2∧tm 6=vi s1.2∧tm 7=vi s5.2∧tm 30=(.bool y5))) (fun k9=>?_) ?_
    ·rcases Bool.eq_false_or_eq_true (decide (a1<s5.2)) with q9|q9
     ·replace e3:=ax q9 e3
      refine ai rfl q9 (aj h9 (ai rfl q9 (aj h13 (ai rfl q9 ?_))))
      obtain⟨x3,q10,e3⟩:=oB e3
      refine aq (v:=v1) rfl rfl (s9.curS (s:=Sh.int) 0 rfl) rfl q10 fun p1 q11=>ai rfl q9 (aO ((s9.curS 0 rfl).low pR q8) rfl (s9.curS (s:=Sh.int) 0 rfl) pR q11 q10 ?_)
      have h25:=aH (s9.curS (s:=Sh.int) 0 rfl) pR q11 q10
      refine ai rfl q9 (aj h9 (ai rfl q9 (aj h13 (ai rfl q9 (df rfl rfl (ai rfl q9 ?_))))))
      obtain⟨x4,q12,e3⟩:=oB e3
      refine aq (v:=v1) rfl rfl (s9.curS (s:=Sh.int) 0 rfl) rfl q12 fun p2 q13=>ai rfl q9 (aO ((s9.curS 0 rfl).low pR q8) rfl (s9.curS (s:=Sh.int) 0 rfl) pR q13 q12 ?_)
      have h26:=aH (s9.curS (s:=Sh.int) 0 rfl) pR q13 q12
      refine ai rfl q9 ?_
      obtain⟨x5,q14,e3⟩:=oB e3
      obtain⟨Z6,V6,W1,g6,u1,c1,c2,-,c4,c3⟩:=Sat.call (l1:=[]) s9
      refine bK (mc rfl (mc rfl m0)) (X.D4 nd.D4 c1 q14) fun _ H9 i3 k10=>?_
      have d2:=d1.keep k10
      obtain⟨rfl,s11⟩:=i3
      have s12:=c3 _ _ s11
      have h27:=aH (c2 0 _ Sh.int _ _ rfl) s11.v q11 q10
      have h28:=aH (c2 0 _ Sh.int _ _ rfl) s11.v q13 q12
      refine bJ (a:=.bool x5) rfl q9 rfl ?_
      obtain rfl:=oJ e3
      exact k9 _ _ _ ⟨d2.up rfl,_,_,g6,s12,h9,h10,h11,h12,h13,rfl⟩
     replace e3:=aS q9 e3
     refine aw rfl q9 (aw rfl q9 (aw rfl q9 (aw rfl q9 (aw rfl q9 (aw rfl q9 (aw rfl q9 (aw rfl q9 (aw rfl q9 (aw rfl q9 (bI (b:=.bool false) rfl q9 rfl ?_))))))))))
     obtain rfl:=oJ e3
     exact k9 _ _ _ ⟨d1.up rfl,_,_,Gw.refl _ _,s9,h9,h10,h11,h12,h13,rfl⟩
    intro _ H8 _ i4
    obtain⟨d3,Z5,V5,g5,s10,h19,h20,h21,h22,h23,h24⟩:=i4
    refine aQ aK (bx h24 (fun q15=>?_) (fun q15=>?_))
    ·replace e2:=ax q15 e2
     refine ar (ah (ay (aA s10 fun n2 H10 s13 q16 d4=>aj h19 (aj h23 (aj h19 (aj h23 (df rfl rfl (aj h19 (aj h23 (df rfl rfl ?_))))))))))
     obtain⟨x6,q17,e2⟩:=oB e2
     refine aq (v:=v1) rfl rfl (s13.curS (s:=Sh.int) 0 rfl) rfl q17 fun p3 q18=>aO ((s13.curS 0 rfl).low pR q16) rfl (s13.curS (s:=Sh.int) 0 rfl) pR q18 q17 ?_
     have h29:=aH (s13.curS (s:=Sh.int) 0 rfl) pR q18 q17
     refine aj h19 (aj h23 ?_)
     obtain⟨x7,q19,e2⟩:=oB e2
     refine aq (v:=v1) rfl rfl (s13.curS (s:=Sh.int) 0 rfl) rfl q19 fun p4 q20=>aO ((s13.curS 0 rfl).low pR q16) rfl (s13.curS (s:=Sh.int) 0 rfl) pR q20 q19 ?_
     have h30:=aH (s13.curS (s:=Sh.int) 0 rfl) pR q20 q19
     obtain⟨x8,q21,e2⟩:=oB e2
     refine aq (v:=v1) rfl rfl (s13.curS (s:=Sh.int) 0 rfl) rfl q21 fun p5 q22=>cw 0 s13 rfl Sh.G5 rfl rfl rfl q22 q21 rfl rfl fun H11 s14 k11=>?_
     have d5:=d4.keep k11
     obtain⟨x9,q23,e2⟩:=oB e2
     refine aq (v:=v1) rfl rfl (s14.curS (s:=Sh.int) 0 rfl) rfl q23 fun p6 q24=>cw 0 s14 rfl Sh.G5 rfl rfl rfl q24 q23 rfl rfl fun H12 s15 k12=>?_
     have d6:=d5.keep k12
     refine aQ aK (aF (bq (aa h23 (bz rfl rfl (aa (v:=vi (Pu.W (s5.2-1))) rfl (ae ?_))))))
     exact k5 _ _ _ (sJ e2) ⟨_,_,(g3.trans g5),s15,h19,h20,h21,h22,rfl⟩
    replace e2:=aS q15 e2
    refine aR (aU (aU (bT ?_)))
    exact k8 _ _ ⟨_,k6 _ (sJ e2),_,_,(g3.trans g5),s10,h19,h20,h21,h22,h23⟩
   intro _ H6 i5
   obtain⟨s7,f1,Z4,V4,g4,s8,h14,h15,h16,h17,h18⟩:=i5
   replace e1:=bD f1 e1
   refine aF (bq (aa h17 (az rfl rfl (aa (v:=vi (Pu.W (s1.2+1))) rfl (ae ?_)))))
   exact k1 _ _ _ (sJ e1) ⟨_,_,(g1.trans g4),s8,h14,h15,h16,rfl⟩
  replace e1:=bb q4 e1
  refine aR (aU (aU (bT ?_)))
  exact k4 _ _ ⟨_,k2 _ (sJ e1),_,_,g1,s2,h1,h2,h3,h4⟩
 intro _ H3 i6
 obtain⟨s3,f2,Z2,V2,g2,s4,h5,h6,h7,h8⟩:=i6
 replace e:=bD f2 e
 obtain rfl:=oJ e
 refine dk ?_
 exact⟨.inl rfl,_,rfl,rfl,(s4.weak g2 hs.zv)⟩
structure Nd.C6 (T:FuncId→Option AFunc):Prop where
 own:Has T I.C6 F.C6
 D4:Nd.D4 T
theorem X.C6 {T:FuncId→Option AFunc}(nd:Nd.C6 T){φ:Nat}{Z V:PH}{H:Hp}{v1:Value}{a0:(List Int)}{a1:Int}{a2:Int}{a3:Int}(hs:Sat Z V H [It.sl Sh.int v1 a0]){r:(List Int)}(e:P.C6 φ a0 a1 a2 a3=some r):
 G T I.C6 [v1,vi a1,vi a2,vi a3] H (fun rv H'=>rv=undef∧Sat Z V H' [It.sl Sh.int v1 r]):=by
 unfold P.C6 at e
 refine bB nd.own (af (aa (v:=vi a1) rfl (aa (v:=vi a1) rfl (ae ?_))))
 obtain⟨y1,q3,e⟩:=oB e
 refine bf (I:=fun tm H=>∃(s3:((List Int)×Int)),y1= .out s3∧(∃(Z2 V2:PH),Gw Z V Z2 V2∧Sat Z2 V2 H [It.sl Sh.int v1 s3.1]∧tm 0=v1∧tm 2=vi a2∧tm 3=vi a3∧tm 8=vi s3.2)) (fun k4=>?_) ?_
 ·refine ay (cc (fun(s1:((List Int)×Int)) tm H=>∃(Z1 V1:PH),Gw Z V Z1 V1∧Sat Z1 V1 H [It.sl Sh.int v1 s1.1]∧tm 0=v1∧tm 2=vi a2∧tm 3=vi a3∧tm 8=vi s1.2) (fun s1 y2 tm H2 j1 e1 k1 k2 k3=>?_) q3 ⟨_,_,Gw.refl _ _,hs,rfl,rfl,rfl,rfl⟩)
  obtain⟨Z1,V1,g1,s2,h1,h2,h3,h4⟩:=j1
  unfold P.C6.b0 at e1
  refine ay (af (aa h4 (dO rfl rfl (az rfl rfl (aa (v:=vi (Pu.W ((Pu.W (2*s1.2))+1))) rfl (ae (ah (af (aa (v:=vi (Pu.W ((Pu.W (2*s1.2))+1))) rfl (aa h2 (cd rfl rfl (ae (aI rfl (fun q4=>?_) (fun q4=>?_))))))))))))))
  ·replace e1:=ax q4 e1
   refine aR (aU (kq rfl (aU (bT ?_))))
   exact k4 _ _ ⟨_,k2 _ (sJ e1),_,_,g1,s2,h1,h2,h3,h4⟩
  replace e1:=bb q4 e1
  refine ar (ah (ah (ap (P:=fun tm=>tm 0=v1∧tm 2=vi a2∧tm 3=vi a3∧tm 8=vi s1.2∧tm 9=(vi (Pu.W ((Pu.W (2*s1.2))+1)))∧True) ⟨h1,h2,h3,h4,rfl,trivial⟩ ?_)))
  intro _ i2
  obtain⟨h9,h10,h11,h12,h13,-⟩:=i2
  refine aA s2 fun n1 H4 s5 q5 d1=>aj h13 (cP rfl rfl (aj h10 (jF rfl rfl (aj (v:=.bool (decide ((Pu.W ((Pu.W ((Pu.W (2*s1.2))+1))+1))<a2))) rfl ?_))))
  obtain⟨y3,e2,e1⟩:=oB e1
  refine dn 15 (I:=fun tm H=>DD n1 20 (List.length F.C6.r3) H∧(∃(Z3 V3:PH),Gw Z1 V1 Z3 V3∧Sat Z3 V3 H [It.sl Sh.int v1 s1.1]∧tm 0=v1∧tm 2=vi a2∧tm 3=vi a3∧tm 8=vi s1.2∧tm 9=(vi (Pu.W ((Pu.W (2*s1.2))+1)))∧tm 36=(.bool y3))) (fun k5=>?_) ?_
  ·rcases Bool.eq_false_or_eq_true (decide ((Pu.W ((Pu.W ((Pu.W (2*s1.2))+1))+1))<a2)) with q6|q6
   ·replace e2:=ax q6 e2
    refine ai rfl q6 (aj h9 (ai rfl q6 (aj h11 (ai rfl q6 (aj h13 (ai rfl q6 (cP rfl rfl (ai rfl q6 ?_))))))))
    obtain⟨x2,q7,e2⟩:=oB e2
    refine aq (v:=v1) rfl rfl (s5.curS (s:=Sh.int) 0 rfl) rfl q7 fun p1 q8=>ai rfl q6 (aO ((s5.curS 0 rfl).low pR q5) rfl (s5.curS (s:=Sh.int) 0 rfl) pR q8 q7 ?_)
    have h20:=aH (s5.curS (s:=Sh.int) 0 rfl) pR q8 q7
    refine ai rfl q6 (aj h9 (ai rfl q6 (aj h11 (ai rfl q6 (aj h13 (ai rfl q6 (cP rfl rfl (ai rfl q6 (cP rfl rfl (ai rfl q6 ?_))))))))))
    obtain⟨x3,q9,e2⟩:=oB e2
    refine aq (v:=v1) rfl rfl (s5.curS (s:=Sh.int) 0 rfl) rfl q9 fun p2 q10=>ai rfl q6 (aO ((s5.curS 0 rfl).low pR q5) rfl (s5.curS (s:=Sh.int) 0 rfl) pR q10 q9 ?_)
    have h21:=aH (s5.curS (s:=Sh.int) 0 rfl) pR q10 q9
    refine ai rfl q6 ?_
    obtain⟨x4,q11,e2⟩:=oB e2
    obtain⟨Z4,V4,W1,g4,u1,c1,c2,-,c4,c3⟩:=Sat.call (l1:=[]) s5
    refine bK (mc rfl (mc rfl m0)) (X.D4 nd.D4 c1 q11) fun _ H6 i3 k6=>?_
    have d2:=d1.keep k6
    obtain⟨rfl,s7⟩:=i3
    have s8:=c3 _ _ s7
    have h22:=aH (c2 0 _ Sh.int _ _ rfl) s7.v q8 q7
    have h23:=aH (c2 0 _ Sh.int _ _ rfl) s7.v q10 q9
    refine bJ (a:=.bool x4) rfl q6 rfl ?_
    obtain rfl:=oJ e2
    exact k5 _ _ _ ⟨d2.up rfl,_,_,g4,s8,h9,h10,h11,h12,h13,rfl⟩
   replace e2:=aS q6 e2
   refine aw rfl q6 (aw rfl q6 (aw rfl q6 (aw rfl q6 (aw rfl q6 (aw rfl q6 (aw rfl q6 (aw rfl q6 (aw rfl q6 (aw rfl q6 (aw rfl q6 (aw rfl q6 (aw rfl q6 (aw rfl q6 (bI (b:=.bool false) rfl q6 rfl ?_))))))))))))))
   obtain rfl:=oJ e2
   exact k5 _ _ _ ⟨d1.up rfl,_,_,Gw.refl _ _,s5,h9,h10,h11,h12,h13,rfl⟩
  intro _ H5 _ i4
  obtain⟨d3,Z3,V3,g3,s6,h14,h15,h16,h17,h18,h19⟩:=i4
  refine aQ aK ?_
  obtain⟨y4,e3,e1⟩:=oB e1
  refine bf (I:=fun tm H=>∃(Z5 V5:PH),Gw Z3 V3 Z5 V5∧Sat Z5 V5 H [It.sl Sh.int v1 s1.1]∧tm 0=v1∧tm 2=vi a2∧tm 3=vi a3∧tm 8=vi s1.2∧tm 9=vi y4) (fun k7=>?_) ?_
  ·refine bx h19 (fun q12=>?_) (fun q12=>?_)
   ·replace e3:=ax q12 e3
    refine bq (aa h18 (az rfl rfl (aa (v:=vi (Pu.W ((Pu.W ((Pu.W (2*s1.2))+1))+1))) rfl (ae ?_))))
    obtain rfl:=oJ e3
    exact k7 _ _ ⟨_,_,Gw.refl _ _,s6,h14,h15,h16,h17,rfl⟩
   replace e3:=aS q12 e3
   refine ar ?_
   obtain rfl:=oJ e3
   exact k7 _ _ ⟨_,_,Gw.refl _ _,s6,h14,h15,h16,h17,h18⟩
  intro _ H7 i5
  obtain⟨Z5,V5,g5,s9,h24,h25,h26,h27,h28⟩:=i5
  refine ah (ah (aA s9 fun n2 H8 s10 q13 d4=>aj h24 (aj h26 (aj h27 (cP rfl rfl ?_)))))
  obtain⟨x5,q14,e1⟩:=oB e1
  refine aq (v:=v1) rfl rfl (s10.curS (s:=Sh.int) 0 rfl) rfl q14 fun p3 q15=>aO ((s10.curS 0 rfl).low pR q13) rfl (s10.curS (s:=Sh.int) 0 rfl) pR q15 q14 ?_
  have h29:=aH (s10.curS (s:=Sh.int) 0 rfl) pR q15 q14
  refine aj h24 (aj h26 (aj h28 (cP rfl rfl ?_)))
  obtain⟨x6,q16,e1⟩:=oB e1
  refine aq (v:=v1) rfl rfl (s10.curS (s:=Sh.int) 0 rfl) rfl q16 fun p4 q17=>aO ((s10.curS 0 rfl).low pR q13) rfl (s10.curS (s:=Sh.int) 0 rfl) pR q17 q16 ?_
  have h30:=aH (s10.curS (s:=Sh.int) 0 rfl) pR q17 q16
  obtain⟨x7,q18,e1⟩:=oB e1
  obtain⟨Z6,V6,W2,g6,u2,c5,c6,-,c8,c7⟩:=Sat.call (l1:=[]) s10
  refine bK (mc rfl (mc rfl m0)) (X.D4 nd.D4 c5 q18) fun _ H9 i6 k8=>?_
  have d5:=d4.keep k8
  obtain⟨rfl,s11⟩:=i6
  have s12:=c7 _ _ s11
  have h31:=aH (c6 0 _ Sh.int _ _ rfl) s11.v q15 q14
  have h32:=aH (c6 0 _ Sh.int _ _ rfl) s11.v q17 q16
  refine dJ rfl (aQ aK (ap (P:=fun tm=>tm 0=v1∧tm 2=vi a2∧tm 3=vi a3∧tm 8=vi s1.2∧tm 9=vi y4∧tm 52=(.bool (!x7))∧True) ⟨h24,h25,h26,h27,h28,rfl,trivial⟩ ?_))
  intro _ i7
  obtain⟨h33,h34,h35,h36,h37,h38,-⟩:=i7
  refine bx h38 (fun q19=>?_) (fun q19=>?_)
  ·replace e1:=ax q19 e1
   refine aL ?_
   have e4:=ci (k3 _ (sJ e1)) e
   obtain rfl:=oJ e4
   exact⟨.inr rfl,_,rfl,rfl,(s12.weak (g1.trans (g3.trans (g5.trans g6))) hs.zv)⟩
  replace e1:=aS q19 e1
  refine ar (ah (aA s12 fun n3 H10 s13 q20 d6=>aj h33 (aj h35 (aj h36 (cP rfl rfl (aj h33 (aj h35 (aj h37 (cP rfl rfl (aj h33 (aj h35 (aj h37 (cP rfl rfl ?_)))))))))))))
  obtain⟨x8,q21,e1⟩:=oB e1
  refine aq (v:=v1) rfl rfl (s13.curS (s:=Sh.int) 0 rfl) rfl q21 fun p5 q22=>aO ((s13.curS 0 rfl).low pR q20) rfl (s13.curS (s:=Sh.int) 0 rfl) pR q22 q21 ?_
  have h39:=aH (s13.curS (s:=Sh.int) 0 rfl) pR q22 q21
  refine aj h33 (aj h35 (aj h36 (cP rfl rfl ?_)))
  obtain⟨x9,q23,e1⟩:=oB e1
  refine aq (v:=v1) rfl rfl (s13.curS (s:=Sh.int) 0 rfl) rfl q23 fun p6 q24=>aO ((s13.curS 0 rfl).low pR q20) rfl (s13.curS (s:=Sh.int) 0 rfl) pR q24 q23 ?_
  have h40:=aH (s13.curS (s:=Sh.int) 0 rfl) pR q24 q23
  obtain⟨x10,q25,e1⟩:=oB e1
  refine aq (v:=v1) rfl rfl (s13.curS (s:=Sh.int) 0 rfl) rfl q25 fun p7 q26=>cw 0 s13 rfl Sh.G5 rfl rfl rfl q26 q25 rfl rfl fun H11 s14 k9=>?_
  have d7:=d6.keep k9
  obtain⟨x11,q27,e1⟩:=oB e1
  refine aq (v:=v1) rfl rfl (s14.curS (s:=Sh.int) 0 rfl) rfl q27 fun p8 q28=>cw 0 s14 rfl Sh.G5 rfl rfl rfl q28 q27 rfl rfl fun H12 s15 k10=>?_
  have d8:=d7.keep k10
  refine aQ aK (ap (P:=fun tm=>tm 0=v1∧tm 2=vi a2∧tm 3=vi a3∧tm 9=vi y4∧True) ⟨h33,h34,h35,h37,trivial⟩ ?_)
  intro _ i8
  obtain⟨h41,h42,h43,h44,-⟩:=i8
  refine bq (aa h44 (aa (v:=vi y4) rfl (ae (aF ?_))))
  exact k1 _ _ _ (sJ e1) ⟨_,_,(g1.trans (g3.trans (g5.trans g6))),s15,h41,h42,h43,rfl⟩
 intro _ H3 i9
 obtain⟨s3,f1,Z2,V2,g2,s4,h5,h6,h7,h8⟩:=i9
 replace e:=bD f1 e
 obtain rfl:=oJ e
 refine dk ?_
 exact⟨.inl rfl,_,rfl,rfl,(s4.weak g2 hs.zv)⟩
structure Nd.C2 (T:FuncId→Option AFunc):Prop where
 own:Has T I.C2 F.C2
 C6:Nd.C6 T
theorem X.C2 {T:FuncId→Option AFunc}(nd:Nd.C2 T){φ:Nat}{Z V:PH}{H:Hp}{v1:Value}{a0:(List Int)}{a1:Int}{a2:Int}(hs:Sat Z V H [It.sl Sh.int v1 a0]){r:(List Int)}(e:P.C2 φ a0 a1 a2=some r):
 G T I.C2 [v1,vi a1,vi a2] H (fun rv H'=>rv=undef∧Sat Z V H' [It.sl Sh.int v1 r]):=by
 unfold P.C2 at e
 refine bB nd.own (af (aa (v:=vi a1) rfl (aa (v:=vi a1) rfl (ae (af (aa (v:=vi 0) rfl (ae (af (aa (v:=vi a2) rfl (aa (v:=vi a1) rfl (bz rfl rfl (aa (v:=vi (Pu.W (a2-a1))) rfl (ae (ah (af (aa (v:=vi (Pu.W (a2-a1))) rfl (bz rfl rfl ?_)))))))))))))))))
 obtain⟨x1,q1,e⟩:=oB e
 refine fU rfl rfl q1 (aa (v:=vi x1) rfl (ae (ap (P:=fun tm=>tm 0=v1∧tm 6=vi a1∧tm 7=vi 0∧tm 8=(vi (Pu.W (a2-a1)))∧tm 9=vi x1∧True) ⟨rfl,rfl,rfl,rfl,rfl,trivial⟩ ?_)))
 intro _ i1
 obtain⟨h1,h2,h3,h4,h5,-⟩:=i1
 obtain⟨y1,q4,e⟩:=oB e
 refine bf (I:=fun tm H=>∃(s3:((List Int)×Int)),y1= .out s3∧(∃(Z2 V2:PH),Gw Z V Z2 V2∧Sat Z2 V2 H [It.sl Sh.int v1 s3.1]∧tm 0=v1∧tm 6=vi a1∧tm 7=vi 0∧tm 8=(vi (Pu.W (a2-a1)))∧tm 9=vi s3.2)) (fun k4=>?_) ?_
 ·refine ay (cc (fun(s1:((List Int)×Int)) tm H=>∃(Z1 V1:PH),Gw Z V Z1 V1∧Sat Z1 V1 H [It.sl Sh.int v1 s1.1]∧tm 0=v1∧tm 6=vi a1∧tm 7=vi 0∧tm 8=(vi (Pu.W (a2-a1)))∧tm 9=vi s1.2) (fun s1 y2 tm H2 j1 e1 k1 k2 k3=>?_) q4 ⟨_,_,Gw.refl _ _,hs,h1,h2,h3,h4,h5⟩)
  obtain⟨Z1,V1,g1,s2,h6,h7,h8,h9,h10⟩:=j1
  unfold P.C2.b0 at e1
  refine ah (af (aa h10 (cd rfl rfl (ae (aI rfl (fun q5=>?_) (fun q5=>?_))))))
  ·replace e1:=ax q5 e1
   refine ar (ah (ay (bq (aa h6 (aa h10 (aa h9 (aa h7 ?_)))))))
   obtain⟨x3,q6,e1⟩:=oB e1
   obtain⟨Z3,V3,W1,g3,u1,c1,c2,-,c4,c3⟩:=Sat.call (l1:=[It.sl Sh.int v1 s1.1]) (l2:=[]) s2
   refine au (mc rfl (mc rfl (mc rfl (mc rfl m0)))) (X.C6 nd.C6 c1 q6) fun _ H4 i3=>?_
   obtain⟨rfl,s5⟩:=i3
   have s6:=c3 _ _ s5
   refine ae (aF (bq (aa h10 (bz rfl rfl (aa (v:=vi (Pu.W (s1.2-1))) rfl (ae ?_))))))
   exact k1 _ _ _ (sJ e1) ⟨_,_,(g1.trans g3),s6,h6,h7,h8,h9,rfl⟩
  replace e1:=bb q5 e1
  refine aR (aU (aU (bT ?_)))
  exact k4 _ _ ⟨_,k2 _ (sJ e1),_,_,g1,s2,h6,h7,h8,h9,h10⟩
 intro _ H3 i4
 obtain⟨s3,f1,Z2,V2,g2,s4,h11,h12,h13,h14,h15⟩:=i4
 replace e:=bD f1 e
 refine af (aa h14 (bz rfl rfl (aa (v:=vi (Pu.W ((Pu.W (a2-a1))-1))) rfl (ae ?_))))
 obtain⟨y3,q9,e⟩:=oB e
 refine bf (I:=fun tm H=>∃(s9:((List Int)×Int)),y3= .out s9∧(∃(Z5 V5:PH),Gw Z2 V2 Z5 V5∧Sat Z5 V5 H [It.sl Sh.int v1 s9.1]∧tm 0=v1∧tm 6=vi a1∧tm 7=vi 0∧tm 10=vi s9.2)) (fun k8=>?_) ?_
 ·refine ay (cc (fun(s7:((List Int)×Int)) tm H=>∃(Z4 V4:PH),Gw Z2 V2 Z4 V4∧Sat Z4 V4 H [It.sl Sh.int v1 s7.1]∧tm 0=v1∧tm 6=vi a1∧tm 7=vi 0∧tm 10=vi s7.2) (fun s7 y4 tm H6 j2 e2 k5 k6 k7=>?_) q9 ⟨_,_,Gw.refl _ _,s4,h11,h12,h13,rfl⟩)
  obtain⟨Z4,V4,g4,s8,h16,h17,h18,h19⟩:=j2
  unfold P.C2.b1 at e2
  refine ah (af (aa h19 (cd rfl rfl (ae (aI rfl (fun q10=>?_) (fun q10=>?_))))))
  ·replace e2:=ax q10 e2
   refine ar (ah (ay (ah (aA s8 fun n1 H8 s11 q11 d1=>aj h16 (aj h17 (aj h16 (aj h17 (aj h19 (cP rfl rfl (aj h16 (aj h17 (aj h19 (cP rfl rfl ?_)))))))))))))
   obtain⟨x5,q12,e2⟩:=oB e2
   refine aq (v:=v1) rfl rfl (s11.curS (s:=Sh.int) 0 rfl) rfl q12 fun p1 q13=>aO ((s11.curS 0 rfl).low pR q11) rfl (s11.curS (s:=Sh.int) 0 rfl) pR q13 q12 ?_
   have h24:=aH (s11.curS (s:=Sh.int) 0 rfl) pR q13 q12
   refine aj h16 (aj h17 ?_)
   obtain⟨x6,q14,e2⟩:=oB e2
   refine aq (v:=v1) rfl rfl (s11.curS (s:=Sh.int) 0 rfl) rfl q14 fun p2 q15=>aO ((s11.curS 0 rfl).low pR q11) rfl (s11.curS (s:=Sh.int) 0 rfl) pR q15 q14 ?_
   have h25:=aH (s11.curS (s:=Sh.int) 0 rfl) pR q15 q14
   obtain⟨x7,q16,e2⟩:=oB e2
   refine aq (v:=v1) rfl rfl (s11.curS (s:=Sh.int) 0 rfl) rfl q16 fun p3 q17=>cw 0 s11 rfl Sh.G5 rfl rfl rfl q17 q16 rfl rfl fun H9 s12 k9=>?_
   have d2:=d1.keep k9
   obtain⟨x8,q18,e2⟩:=oB e2
   refine aq (v:=v1) rfl rfl (s12.curS (s:=Sh.int) 0 rfl) rfl q18 fun p4 q19=>cw 0 s12 rfl Sh.G5 rfl rfl rfl q19 q18 rfl rfl fun H10 s13 k10=>?_
   have d3:=d2.keep k10
   refine aQ aK (ap (P:=fun tm=>tm 0=v1∧tm 6=vi a1∧tm 7=vi 0∧tm 10=vi s7.2∧True) ⟨h16,h17,h18,h19,trivial⟩ ?_)
   intro _ i6
   obtain⟨h26,h27,h28,h29,-⟩:=i6
   refine bq (aa h26 (aa h28 (aa h29 (aa h27 ?_))))
   obtain⟨x9,q20,e2⟩:=oB e2
   obtain⟨Z6,V6,W2,g6,u2,c5,c6,-,c8,c7⟩:=Sat.call (l1:=[It.sl Sh.int v1 (Pu.st (Pu.st s7.1 a1 x5) (Pu.W (a1+s7.2)) x6)]) (l2:=[]) s13
   refine au (mc rfl (mc rfl (mc rfl (mc rfl m0)))) (X.C6 nd.C6 c5 q20) fun _ H11 i7=>?_
   obtain⟨rfl,s14⟩:=i7
   have s15:=c7 _ _ s14
   refine ae (aF (bq (aa h29 (bz rfl rfl (aa (v:=vi (Pu.W (s7.2-1))) rfl (ae ?_))))))
   exact k5 _ _ _ (sJ e2) ⟨_,_,(g4.trans g6),s15,h26,h27,h28,rfl⟩
  replace e2:=bb q10 e2
  refine aR (aU (aU (bT ?_)))
  exact k8 _ _ ⟨_,k6 _ (sJ e2),_,_,g4,s8,h16,h17,h18,h19⟩
 intro _ H7 i8
 obtain⟨s9,f2,Z5,V5,g5,s10,h20,h21,h22,h23⟩:=i8
 replace e:=bD f2 e
 obtain rfl:=oJ e
 refine dk ?_
 exact⟨.inl rfl,_,rfl,rfl,(s10.weak (g2.trans g5) hs.zv)⟩
structure Nd.G4 (T:FuncId→Option AFunc):Prop where
 own:Has T I.G4 F.G4
theorem X.G4 (nd:Nd.G4 T){a0:Int}(hs:Sat Z V H []){r:Int}(e:P.G4 a0=some r):
 G T I.G4 [(.int .u64 a0)] H (fun rv H'=>rv=vi r∧Sat Z V H' []):=by
 unfold P.G4 at e
 refine bB nd.own (af (aa (v:=vi 0) rfl (ae (ah (af (aa (v:=.int .u64 a0) rfl (cd rfl rfl (ae ?_))))))))
 obtain⟨y1,e1,e⟩:=oB e
 refine bf (I:=fun tm H=>∃(Z1 V1:PH),Gw Z V Z1 V1∧Sat Z1 V1 H []∧tm 0=(.int .u64 y1.1)∧tm 2=vi y1.2) (fun k1=>?_) ?_
 ·refine aI rfl (fun q1=>?_) (fun q1=>?_)
  ·replace e1:=ax q1 e1
   refine af (aa (v:=.int .u64 a0) rfl ?_)
   obtain⟨x1,q2,e1⟩:=oB e1
   refine fo rfl rfl q2 (aa (v:=.int .u64 x1) rfl (ae (bq (aa (v:=vi 32) rfl (ae ?_)))))
   obtain rfl:=oJ e1
   exact k1 _ _ ⟨_,_,Gw.refl _ _,hs,rfl,rfl⟩
  replace e1:=bb q1 e1
  refine ar ?_
  obtain rfl:=oJ e1
  exact k1 _ _ ⟨_,_,Gw.refl _ _,hs,rfl,rfl⟩
 intro _ H1 i1
 obtain⟨Z1,V1,g1,s1,h1,h2⟩:=i1
 refine ah (af (aa h1 (cd rfl rfl (ae ?_))))
 obtain⟨y2,e2,e⟩:=oB e
 refine bf (I:=fun tm H=>∃(Z2 V2:PH),Gw Z1 V1 Z2 V2∧Sat Z2 V2 H []∧tm 0=(.int .u64 y2.1)∧tm 2=vi y2.2) (fun k2=>?_) ?_
 ·refine aI rfl (fun q3=>?_) (fun q3=>?_)
  ·replace e2:=ax q3 e2
   refine af (aa h1 ?_)
   obtain⟨x2,q4,e2⟩:=oB e2
   refine fo rfl rfl q4 (aa (v:=.int .u64 x2) rfl (ae (bq (aa h2 (az rfl rfl (aa (v:=vi (Pu.W (y1.2+16))) rfl (ae ?_)))))))
   obtain rfl:=oJ e2
   exact k2 _ _ ⟨_,_,Gw.refl _ _,s1,rfl,rfl⟩
  replace e2:=bb q3 e2
  refine ar ?_
  obtain rfl:=oJ e2
  exact k2 _ _ ⟨_,_,Gw.refl _ _,s1,h1,h2⟩
 intro _ H2 i2
 obtain⟨Z2,V2,g2,s2,h3,h4⟩:=i2
 refine ah (af (aa h3 (cd rfl rfl (ae ?_))))
 obtain⟨y3,e3,e⟩:=oB e
 refine bf (I:=fun tm H=>∃(Z3 V3:PH),Gw Z2 V2 Z3 V3∧Sat Z3 V3 H []∧tm 0=(.int .u64 y3.1)∧tm 2=vi y3.2) (fun k3=>?_) ?_
 ·refine aI rfl (fun q5=>?_) (fun q5=>?_)
  ·replace e3:=ax q5 e3
   refine af (aa h3 ?_)
   obtain⟨x3,q6,e3⟩:=oB e3
   refine fo rfl rfl q6 (aa (v:=.int .u64 x3) rfl (ae (bq (aa h4 (az rfl rfl (aa (v:=vi (Pu.W (y2.2+8))) rfl (ae ?_)))))))
   obtain rfl:=oJ e3
   exact k3 _ _ ⟨_,_,Gw.refl _ _,s2,rfl,rfl⟩
  replace e3:=bb q5 e3
  refine ar ?_
  obtain rfl:=oJ e3
  exact k3 _ _ ⟨_,_,Gw.refl _ _,s2,h3,h4⟩
 intro _ H3 i3
 obtain⟨Z3,V3,g3,s3,h5,h6⟩:=i3
 refine af (aa h6 (aa h5 (dw rfl ?_)))
 obtain⟨x4,q7,e⟩:=oB e
 refine o_sidx rfl rfl q7 (dw rfl (az rfl rfl (aa (v:=vi (Pu.W (y3.2+(Pu.W x4)))) rfl (ae (aL ?_)))))
 obtain rfl:=oJ e
 exact⟨.inr rfl,_,(ar1 rfl),rfl,(s3.weak (g1.trans (g2.trans g3)) hs.zv)⟩
structure Nd.J2 (T:FuncId→Option AFunc):Prop where
 own:Has T I.J2 F.J2
 G4:Nd.G4 T
theorem X.J2 (nd:Nd.J2 T){a0:Int}(hs:Sat Z V H []){r:Int}(e:P.J2 a0=some r):
 G T I.J2 [(.int .u64 a0)] H (fun rv H'=>rv=vi r∧Sat Z V H' []):=by
 unfold P.J2 at e
 refine bB nd.own (af (aa (v:=vi 0) rfl (ae (ah (kl rfl (ar (af (aa (v:=.int .u64 a0) rfl ?_))))))))
 obtain⟨x1,q1,e⟩:=oB e
 obtain⟨Z1,V1,W1,g1,u1,c1,c2,-,c4,c3⟩:=Sat.call (l1:=[]) hs
 refine au (mc rfl m0) (X.G4 nd.G4 c1 q1) fun _ H1 i1=>?_
 obtain⟨rfl,s1⟩:=i1
 have s2:=c3 _ _ s1
 refine aa (v:=vi x1) rfl (ae (aL ?_))
 obtain rfl:=oJ e
 exact⟨.inr rfl,_,(ar1 rfl),rfl,(s2.weak g1 hs.zv)⟩
structure Nd.G6 (T:FuncId→Option AFunc):Prop where
 own:Has T I.G6 F.G6
 J2:Nd.J2 T
theorem X.G6 (nd:Nd.G6 T){a0:Int}(hs:Sat Z V H []){r:Int}(e:P.G6 a0=some r):
 G T I.G6 [vi a0] H (fun rv H'=>rv=(.int .u64 r)∧Sat Z V H' []):=by
 unfold P.G6 at e
 refine bB nd.own (af (aa (v:=.int .u64 0) rfl (ae (af (aa (v:=vi a0) rfl (dw rfl ?_))))))
 obtain⟨x1,q1,e⟩:=oB e
 obtain⟨Z1,V1,W1,g1,u1,c1,c2,-,c4,c3⟩:=Sat.call (l1:=[]) hs
 refine au (mc rfl m0) (X.J2 nd.J2 c1 q1) fun _ H1 i1=>?_
 obtain⟨rfl,s1⟩:=i1
 have s2:=c3 _ _ s1
 obtain⟨x2,q2,e⟩:=oB e
 refine o_shl rfl rfl q2 (aa (v:=.int .u64 x2) rfl (ae (aL ?_)))
 obtain rfl:=oJ e
 exact⟨.inr rfl,_,(ar1 rfl),rfl,(s2.weak g1 hs.zv)⟩
structure Nd.G2 (T:FuncId→Option AFunc):Prop where
 own:Has T I.G2 F.G2
theorem X.G2 (nd:Nd.G2 T){o1:Nat}{a0:Int}(hs:Sat Z V H [pts o1 (.rw 0 [(.int .u64 a0)])]){r:(Int×Int)}(e:P.G2 a0=some r):
 G T I.G2 [(pV o1 0)] H (fun rv H'=>rv=(.int .u64 r.2)∧Sat Z V H' [pts o1 (.rw 0 [(.int .u64 r.1)])]):=by
 unfold P.G2 at e
 refine bB nd.own (af (aa (v:=.int .u64 0) rfl (ae (ah (aA hs fun n1 H1 s1 q1 d1=>aj (v:=pV o1 0) rfl (cI rfl (aZ (q1 _ _ (an.2 ⟨s1.curB 0 rfl,by simp⟩)) 0 s1 rfl rfl rfl rfl (aj (v:=pV o1 0) rfl (cI rfl (aZ (q1 _ _ (an.2 ⟨s1.curB 0 rfl,by simp⟩)) 0 s1 rfl rfl rfl rfl ?_))))))))))
 obtain⟨x1,q2,e⟩:=oB e
 refine kc rfl rfl q2 (jH rfl rfl (cI rfl (eC (us':=[(.int .u64 (Pu.bxor .u64 a0 x1))]) 0 s1 rfl rfl rfl rfl rfl rfl rfl fun H2 s2 k1=>?_)))
 have d2:=d1.keep k1
 refine aQ aK (ap (P:=fun tm=>tm 0=(pV o1 0)∧True) ⟨rfl,trivial⟩ ?_)
 intro _ i1
 obtain⟨h1,-⟩:=i1
 refine ah (aA s2 fun n2 H3 s3 q3 d3=>aj h1 (cI rfl (aZ (q3 _ _ (an.2 ⟨s3.curB 0 rfl,by simp⟩)) 0 s3 rfl rfl rfl rfl (aj h1 (cI rfl (aZ (q3 _ _ (an.2 ⟨s3.curB 0 rfl,by simp⟩)) 0 s3 rfl rfl rfl rfl ?_))))))
 obtain⟨x2,q4,e⟩:=oB e
 refine d_shr rfl rfl q4 (jH rfl rfl (cI rfl (eC (us':=[(.int .u64 (Pu.bxor .u64 (Pu.bxor .u64 a0 x1) x2))]) 0 s3 rfl rfl rfl rfl rfl rfl rfl fun H4 s4 k2=>?_)))
 have d4:=d3.keep k2
 refine aQ aK (ah (ap (P:=fun tm=>tm 0=(pV o1 0)∧True) ⟨h1,trivial⟩ ?_))
 intro _ i2
 obtain⟨h2,-⟩:=i2
 refine aA s4 fun n3 H5 s5 q5 d5=>aj h2 (cI rfl (aZ (q5 _ _ (an.2 ⟨s5.curB 0 rfl,by simp⟩)) 0 s5 rfl rfl rfl rfl (aj h2 (cI rfl (aZ (q5 _ _ (an.2 ⟨s5.curB 0 rfl,by simp⟩)) 0 s5 rfl rfl rfl rfl ?_)))))
 obtain⟨x3,q6,e⟩:=oB e
 refine kc rfl rfl q6 (jH rfl rfl (cI rfl (eC (us':=[(.int .u64 (Pu.bxor .u64 (Pu.bxor .u64 (Pu.bxor .u64 a0 x1) x2) x3))]) 0 s5 rfl rfl rfl rfl rfl rfl rfl fun H6 s6 k3=>?_)))
 have d6:=d5.keep k3
 refine aQ aK (af (aa h2 (bS rfl (ak 0 s6 rfl rfl rfl rfl (aa (v:=.int .u64 (Pu.bxor .u64 (Pu.bxor .u64 (Pu.bxor .u64 a0 x1) x2) x3)) rfl (ae (ap (P:=fun tm=>tm 2=(.int .u64 (Pu.bxor .u64 (Pu.bxor .u64 (Pu.bxor .u64 a0 x1) x2) x3))∧True) ⟨rfl,trivial⟩ ?_)))))))
 intro _ i3
 obtain⟨h3,-⟩:=i3
 refine aL ?_
 obtain rfl:=oJ e
 exact⟨.inr rfl,_,(ar1 h3),rfl,s6⟩
structure Nd.C0 (T:FuncId→Option AFunc):Prop where
 own:Has T I.C0 F.C0
 G6:Nd.G6 T
 G2:Nd.G2 T
theorem X.C0 {T:FuncId→Option AFunc}(nd:Nd.C0 T){φ:Nat}{Z V:PH}{H:Hp}{v1:Value}{a0:(List Int)}{a1:Int}{a2:Int}(hs:Sat Z V H [It.sl Sh.int v1 a0]){r:(List Int)}(e:P.C0 φ a0 a1 a2=some r):
 G T I.C0 [v1,vi a1,vi a2] H (fun rv H'=>rv=undef∧Sat Z V H' [It.sl Sh.int v1 r]):=by
 unfold P.C0 at e
 refine bB nd.own (af (aa (v:=vi a2) rfl (aa (v:=vi a1) rfl (bz rfl rfl (aa (v:=vi (Pu.W (a2-a1))) rfl (ae (af (aa (v:=vi (Pu.W (a2-a1))) rfl (cd rfl rfl (ae ?_))))))))))
 obtain⟨y1,e1,e⟩:=oB e
 refine bf (I:=fun tm H=>∃(Z1 V1:PH),Gw Z V Z1 V1∧Sat Z1 V1 H [It.sl Sh.int v1 y1]) (fun k1=>?_) ?_
 ·refine aI rfl (fun q1=>?_) (fun q1=>?_)
  ·replace e1:=ax q1 e1
   refine af (aa (v:=vi (Pu.W (a2-a1))) rfl (dw rfl (bv hs fun b1 H2 s2=>aP (us':=[(.int .u64 (IntKind.u64.wrap (Pu.W (a2-a1))))]) 0 s2 rfl rfl rfl rfl rfl rfl rfl fun H3 s3=>ae (af (aa (v:=vi (Pu.W (a2-a1))) rfl ?_)))))
   obtain⟨x1,q2,e1⟩:=oB e1
   obtain⟨Z2,V2,W1,g2,u1,c1,c2,-,c4,c3⟩:=Sat.call (l1:=[]) s3
   refine au (mc rfl m0) (X.G6 nd.G6 c1 q2) fun _ H4 i1=>?_
   obtain⟨rfl,s4⟩:=i1
   have s5:=c3 _ _ s4
   refine aa (v:=.int .u64 x1) rfl (ae (ap (P:=fun tm=>tm 0=v1∧tm 1=vi a1∧tm 6=(vi (Pu.W (a2-a1)))∧tm 7=(pV b1 0)∧tm 8=(.int .u64 x1)∧True) ⟨rfl,rfl,rfl,rfl,rfl,trivial⟩ ?_))
   intro _ i2
   obtain⟨h1,h2,h3,h4,h5,-⟩:=i2
   refine af (aa h2 (aa h3 ?_))
   obtain⟨x2,q3,e1⟩:=oB e1
   refine fU rfl rfl q3 (dO rfl rfl (az rfl rfl (bz rfl rfl (aa (v:=vi (Pu.W ((Pu.W (a1+(Pu.W (x2*2))))-1))) rfl (ae ?_)))))
   obtain⟨y2,q6,e1⟩:=oB e1
   refine bf (I:=fun tm H=>∃(s8:((List Int)×Int×Int)),y2= .out s8∧(∃(Z4 V4:PH),Gw Z2 V2 Z4 V4∧Sat Z4 V4 H [It.sl Sh.int v1 s8.1,pts b1 (.rw 0 [(.int .u64 s8.2.1)])]∧tm 0=v1∧tm 1=vi a1∧tm 6=(vi (Pu.W (a2-a1)))∧tm 7=(pV b1 0)∧tm 8=(.int .u64 x1)∧tm 9=vi s8.2.2)) (fun k5=>?_) ?_
   ·refine ay (cc (fun(s6:((List Int)×Int×Int)) tm H=>∃(Z3 V3:PH),Gw Z2 V2 Z3 V3∧Sat Z3 V3 H [It.sl Sh.int v1 s6.1,pts b1 (.rw 0 [(.int .u64 s6.2.1)])]∧tm 0=v1∧tm 1=vi a1∧tm 6=(vi (Pu.W (a2-a1)))∧tm 7=(pV b1 0)∧tm 8=(.int .u64 x1)∧tm 9=vi s6.2.2) (fun s6 y3 tm H6 j1 e2 k2 k3 k4=>?_) q6 ⟨_,_,Gw.refl _ _,(s5.pick [1,0] rfl),h1,h2,h3,h4,h5,rfl⟩)
    obtain⟨Z3,V3,g3,s7,h6,h7,h8,h9,h10,h11⟩:=j1
    unfold P.C0.b0 at e2
    refine ah (af (aa h11 (aa h7 (aa h8 ?_))))
    obtain⟨x4,q7,e2⟩:=oB e2
    refine fU rfl rfl q7 (dO rfl rfl (az rfl rfl (az rfl rfl (ki rfl rfl (ae (aI rfl (fun q8=>?_) (fun q8=>?_)))))))
    ·replace e2:=ax q8 e2
     refine ar (ah (ay (af ?_)))
     obtain⟨x5,q9,e2⟩:=oB e2
     obtain⟨Z5,V5,W2,g5,u2,c5,c6,-,c8,c7⟩:=Sat.call (l1:=[pts b1 (.rw 0 [(.int .u64 s6.2.1)])]) (l2:=[It.sl Sh.int v1 s6.1]) (s7.pick [1,0] rfl)
     refine au (mc h9 m0) (X.G2 nd.G2 (a0:=s6.2.1) c5 q9) fun _ H8 i4=>?_
     obtain⟨rfl,s10⟩:=i4
     have s11:=c7 _ _ s10
     refine aa h10 (bz rfl rfl (jc rfl rfl (dw rfl (aa (v:=vi (Pu.W (Pu.band .u64 x5.2 (IntKind.u64.wrap (x1-1))))) rfl (ae (ap (P:=fun tm=>tm 0=v1∧tm 1=vi a1∧tm 6=(vi (Pu.W (a2-a1)))∧tm 7=(pV b1 0)∧tm 8=(.int .u64 x1)∧tm 9=vi s6.2.2∧tm 10=(vi (Pu.W (Pu.band .u64 x5.2 (IntKind.u64.wrap (x1-1)))))∧True) ⟨h6,h7,h8,h9,h10,h11,rfl,trivial⟩ ?_))))))
     intro _ i5
     obtain⟨h18,h19,h20,h21,h22,h23,h24,-⟩:=i5
     refine ah (af (aa h24 (aa h20 (cd rfl rfl (ae ?_)))))
     obtain⟨y4,e3,e2⟩:=oB e2
     refine bf (I:=fun tm H=>∃(Z6 V6:PH),Gw Z5 V5 Z6 V6∧Sat Z6 V6 H [It.sl Sh.int v1 s6.1,pts b1 (.rw 0 [(.int .u64 x5.1)])]∧tm 0=v1∧tm 1=vi a1∧tm 6=(vi (Pu.W (a2-a1)))∧tm 7=(pV b1 0)∧tm 8=(.int .u64 x1)∧tm 9=vi s6.2.2∧tm 10=vi y4) (fun k6=>?_) ?_
     ·refine aI rfl (fun q10=>?_) (fun q10=>?_)
      ·replace e3:=ax q10 e3
       refine bq (aa h24 (aa h20 (bz rfl rfl (aa (v:=vi (Pu.W ((Pu.W (Pu.band .u64 x5.2 (IntKind.u64.wrap (x1-1))))-(Pu.W (a2-a1))))) rfl (ae ?_)))))
       obtain rfl:=oJ e3
       exact k6 _ _ ⟨_,_,Gw.refl _ _,(s11.pick [1,0] rfl),h18,h19,h20,h21,h22,h23,rfl⟩
      replace e3:=bb q10 e3
      refine ar ?_
      obtain rfl:=oJ e3
      exact k6 _ _ ⟨_,_,Gw.refl _ _,(s11.pick [1,0] rfl),h18,h19,h20,h21,h22,h23,h24⟩
     intro _ H9 i6
     obtain⟨Z6,V6,g6,s12,h25,h26,h27,h28,h29,h30,h31⟩:=i6
     refine aA s12 fun n1 H10 s13 q11 d1=>aj h25 (aj h30 (aj h25 (aj h26 (aj h31 (cP rfl rfl (aj h25 (aj h26 (aj h31 (cP rfl rfl ?_)))))))))
     obtain⟨x6,q12,e2⟩:=oB e2
     refine aq (v:=v1) rfl rfl (s13.curS (s:=Sh.int) 0 rfl) rfl q12 fun p1 q13=>aO ((s13.curS 0 rfl).low pR q11) rfl (s13.curS (s:=Sh.int) 0 rfl) pR q13 q12 ?_
     have h32:=aH (s13.curS (s:=Sh.int) 0 rfl) pR q13 q12
     refine aj h25 (aj h30 ?_)
     obtain⟨x7,q14,e2⟩:=oB e2
     refine aq (v:=v1) rfl rfl (s13.curS (s:=Sh.int) 0 rfl) rfl q14 fun p2 q15=>aO ((s13.curS 0 rfl).low pR q11) rfl (s13.curS (s:=Sh.int) 0 rfl) pR q15 q14 ?_
     have h33:=aH (s13.curS (s:=Sh.int) 0 rfl) pR q15 q14
     obtain⟨x8,q16,e2⟩:=oB e2
     refine aq (v:=v1) rfl rfl (s13.curS (s:=Sh.int) 0 rfl) rfl q16 fun p3 q17=>cw 0 s13 rfl Sh.G5 rfl rfl rfl q17 q16 rfl rfl fun H11 s14 k7=>?_
     have d2:=d1.keep k7
     obtain⟨x9,q18,e2⟩:=oB e2
     refine aq (v:=v1) rfl rfl (s14.curS (s:=Sh.int) 0 rfl) rfl q18 fun p4 q19=>cw 0 s14 rfl Sh.G5 rfl rfl rfl q19 q18 rfl rfl fun H12 s15 k8=>?_
     have d3:=d2.keep k8
     refine aQ aK (aF (bq (aa h30 (az rfl rfl (aa (v:=vi (Pu.W (s6.2.2+1))) rfl (ae ?_))))))
     exact k2 _ _ _ (sJ e2) ⟨_,_,(g3.trans (g5.trans g6)),s15,h25,h26,h27,h28,h29,rfl⟩
    replace e2:=bb q8 e2
    refine aR (aU (aU (bT ?_)))
    exact k5 _ _ ⟨_,k3 _ (sJ e2),_,_,g3,s7,h6,h7,h8,h9,h10,h11⟩
   intro _ H7 i7
   obtain⟨s8,f1,Z4,V4,g4,s9,h12,h13,h14,h15,h16,h17⟩:=i7
   replace e1:=bD f1 e1
   obtain rfl:=oJ e1
   exact k1 _ _ ⟨_,_,(g2.trans g4),(s9.pick [0] rfl)⟩
  replace e1:=bb q1 e1
  refine ar ?_
  obtain rfl:=oJ e1
  exact k1 _ _ ⟨_,_,Gw.refl _ _,hs⟩
 intro _ H1 i8
 obtain⟨Z1,V1,g1,s1⟩:=i8
 obtain rfl:=oJ e
 refine dk ?_
 exact⟨.inl rfl,_,rfl,rfl,(s1.weak g1 hs.zv)⟩
structure Nd.D9 (T:FuncId→Option AFunc):Prop where
 own:Has T I.D9 F.D9
 D4:Nd.D4 T
theorem X.D9 (nd:Nd.D9 T){v1:Value}{o1:Nat}{a0:(List Int)}{a1:Int}{a2:Int}{a3:Int}(hs:Sat Z V H [pts o1 (.rw 0 [vi a3])])(hp1:RdS Sh.int V v1 a0){r:(Int×Int×Int)}(e:P.D9 a0 a1 a2 a3=some r):
 G T I.D9 [v1,vi a1,vi a2,(pV o1 0)] H (fun rv H'=>rv=(.tuple #[vi r.2.1,vi r.2.2])∧Sat Z V H' [pts o1 (.rw 0 [vi r.1])]):=by
 unfold P.D9 at e
 refine bB nd.own (af (aa (v:=vi 0) rfl (aa (v:=vi 0) rfl (ae (ah (ah (aA hs fun n1 H1 s1 q1 d1=>aj (v:=v1) rfl (aj (v:=vi a2) rfl ?_))))))))
 obtain⟨x1,q2,e⟩:=oB e
 refine aq (v:=v1) rfl rfl hp1 rfl q2 fun p1 q3=>aO (RdS.low hp1 s1.v q1) rfl hp1 s1.v q3 q2 (aj (v:=v1) rfl (aj (v:=vi a1) rfl ?_))
 obtain⟨x2,q4,e⟩:=oB e
 refine aq (v:=v1) rfl rfl hp1 rfl q4 fun p2 q5=>aO (RdS.low hp1 s1.v q1) rfl hp1 s1.v q5 q4 ?_
 obtain⟨x3,q6,e⟩:=oB e
 obtain⟨Z1,V1,W1,g1,u1,c1,c2,-,c4,c3⟩:=Sat.call (l1:=[]) s1
 refine bK (mc rfl (mc rfl m0)) (X.D4 nd.D4 c1 q6) fun _ H2 i1 k1=>?_
 have d2:=d1.keep k1
 obtain⟨rfl,s2⟩:=i1
 have s3:=c3 _ _ s2
 refine aQ aK (ap (P:=fun tm=>tm 1=vi a1∧tm 2=vi a2∧tm 3=(pV o1 0)∧tm 18=(.bool x3)∧True) ⟨rfl,rfl,rfl,rfl,trivial⟩ ?_)
 intro _ i2
 obtain⟨h1,h2,h3,h4,-⟩:=i2
 refine bx h4 (fun q7=>?_) (fun q7=>?_)
 ·replace e:=ax q7 e
  refine af (aa h3 (bS rfl (ak 0 s3 rfl rfl rfl rfl (az rfl rfl (bS rfl (aP (us':=[(vi (Pu.W (a3+1)))]) 0 s3 rfl rfl rfl rfl rfl rfl rfl fun H3 s4=>ae (af (aa h2 (aa h1 (aa (v:=vi a2) rfl (aa (v:=vi a1) rfl (ae (aL ?_)))))))))))))
  obtain rfl:=oJ e
  exact⟨.inr rfl,_,(ar2 rfl rfl),rfl,(s4.weak g1 hs.zv)⟩
 replace e:=aS q7 e
 refine ar (af (aa h1 (aa h2 (aa (v:=vi a1) rfl (aa (v:=vi a2) rfl (ae (aL ?_)))))))
 obtain rfl:=oJ e
 exact⟨.inr rfl,_,(ar2 rfl rfl),rfl,(s3.weak g1 hs.zv)⟩
structure Nd.E3 (T:FuncId→Option AFunc):Prop where
 own:Has T I.E3 F.E3
 D9:Nd.D9 T
theorem X.E3 (nd:Nd.E3 T){v1:Value}{o1:Nat}{a0:(List Int)}{a1:Int}{a2:Int}{a3:Int}{a4:Int}(hs:Sat Z V H [pts o1 (.rw 0 [vi a4])])(hp1:RdS Sh.int V v1 a0){r:(Int×Int)}(e:P.E3 a0 a1 a2 a3 a4=some r):
 G T I.E3 [v1,vi a1,vi a2,vi a3,(pV o1 0)] H (fun rv H'=>rv=vi r.2∧Sat Z V H' [pts o1 (.rw 0 [vi r.1])]):=by
 unfold P.E3 at e
 refine bB nd.own (af (aa (v:=vi 0) rfl (ae (af (aa (v:=v1) rfl (aa (v:=vi a1) rfl (aa (v:=vi a2) rfl (aa (v:=pV o1 0) rfl ?_))))))))
 obtain⟨x1,q1,e⟩:=oB e
 obtain⟨Z1,V1,W1,g1,u1,c1,c2,-,c4,c3⟩:=Sat.call (l1:=[pts o1 (.rw 0 [vi a4])]) (l2:=[]) hs
 refine au (mc rfl (mc rfl (mc rfl (mc rfl m0)))) (X.D9 nd.D9 (a3:=a4) c1 (hp1.mono (g1.v.trans u1)) q1) fun _ H1 i1=>?_
 obtain⟨rfl,s1⟩:=i1
 have s2:=c3 _ _ s1
 refine aa (v:=.tuple #[vi x1.2.1,vi x1.2.2]) rfl (bH rfl rfl (bH rfl rfl (aa (v:=vi x1.2.1) rfl (aa (v:=vi x1.2.2) rfl (ae (ap (P:=fun tm=>tm 0=v1∧tm 1=vi x1.2.1∧tm 2=vi x1.2.2∧tm 3=vi a3∧tm 4=(pV o1 0)∧True) ⟨rfl,rfl,rfl,rfl,rfl,trivial⟩ ?_))))))
 intro _ i2
 obtain⟨h1,h2,h3,h4,h5,-⟩:=i2
 refine af (aa h1 (aa h3 (aa h4 (aa h5 ?_))))
 obtain⟨x2,q2,e⟩:=oB e
 obtain⟨Z2,V2,W2,g2,u2,c5,c6,-,c8,c7⟩:=Sat.call (l1:=[pts o1 (.rw 0 [vi x1.1])]) (l2:=[]) s2
 refine au (mc rfl (mc rfl (mc rfl (mc rfl m0)))) (X.D9 nd.D9 (a3:=x1.1) c5 (hp1.mono ((g1.trans g2).v.trans u2)) q2) fun _ H2 i3=>?_
 obtain⟨rfl,s3⟩:=i3
 have s4:=c7 _ _ s3
 refine aa (v:=.tuple #[vi x2.2.1,vi x2.2.2]) rfl (bH rfl rfl (bH rfl rfl (aa (v:=vi x2.2.1) rfl (aa (v:=vi x2.2.2) rfl (ae (ap (P:=fun tm=>tm 0=v1∧tm 1=vi x1.2.1∧tm 2=vi x2.2.1∧tm 4=(pV o1 0)∧True) ⟨h1,h2,rfl,h5,trivial⟩ ?_))))))
 intro _ i4
 obtain⟨h6,h7,h8,h9,-⟩:=i4
 refine af (aa h6 (aa h7 (aa h8 (aa h9 ?_))))
 obtain⟨x3,q3,e⟩:=oB e
 obtain⟨Z3,V3,W3,g3,u3,c9,c10,-,c12,c11⟩:=Sat.call (l1:=[pts o1 (.rw 0 [vi x2.1])]) (l2:=[]) s4
 refine au (mc rfl (mc rfl (mc rfl (mc rfl m0)))) (X.D9 nd.D9 (a3:=x2.1) c9 (hp1.mono (((g1.trans g2).trans g3).v.trans u3)) q3) fun _ H3 i5=>?_
 obtain⟨rfl,s5⟩:=i5
 have s6:=c11 _ _ s5
 refine aa (v:=.tuple #[vi x3.2.1,vi x3.2.2]) rfl (bH rfl rfl (bH rfl rfl (aa (v:=vi x3.2.1) rfl (aa (v:=vi x3.2.2) rfl (ae (ap (P:=fun tm=>tm 2=vi x3.2.2∧True) ⟨rfl,trivial⟩ ?_))))))
 intro _ i6
 obtain⟨h10,-⟩:=i6
 refine af (aa h10 (aa (v:=vi x3.2.2) rfl (ae (aL ?_))))
 obtain rfl:=oJ e
 exact⟨.inr rfl,_,(ar1 rfl),rfl,(s6.weak (g1.trans (g2.trans g3)) hs.zv)⟩
structure Nd.D1 (T:FuncId→Option AFunc):Prop where
 own:Has T I.D1 F.D1
 E3:Nd.E3 T
theorem X.D1 (nd:Nd.D1 T){v1:Value}{o1:Nat}{a0:(List Int)}{a1:Int}{a2:Int}(hs:Sat Z V H [pts o1 (.rw 0 [vi a2])])(hp1:RdS Sh.int V v1 a0){r:(Int×Int)}(e:P.D1 a0 a1 a2=some r):
 G T I.D1 [v1,vi a1,(pV o1 0)] H (fun rv H'=>rv=vi r.2∧Sat Z V H' [pts o1 (.rw 0 [vi r.1])]):=by
 unfold P.D1 at e
 refine bB nd.own (af (aa (v:=vi 0) rfl (ae (af (aa (v:=v1) rfl (aa (v:=vi a1) rfl (bz rfl rfl (aa (v:=vi a1) rfl (aa (v:=vi a1) rfl (az rfl rfl (aa (v:=pV o1 0) rfl ?_)))))))))))
 obtain⟨x1,q1,e⟩:=oB e
 obtain⟨Z1,V1,W1,g1,u1,c1,c2,-,c4,c3⟩:=Sat.call (l1:=[pts o1 (.rw 0 [vi a2])]) (l2:=[]) hs
 refine au (mc rfl (mc rfl (mc rfl (mc rfl (mc rfl m0))))) (X.E3 nd.E3 (a4:=a2) c1 (hp1.mono (g1.v.trans u1)) q1) fun _ H1 i1=>?_
 obtain⟨rfl,s1⟩:=i1
 have s2:=c3 _ _ s1
 refine aa (v:=vi x1.2) rfl (ae (ap (P:=fun tm=>tm 6=vi x1.2∧True) ⟨rfl,trivial⟩ ?_))
 intro _ i2
 obtain⟨h1,-⟩:=i2
 refine aL ?_
 obtain rfl:=oJ e
 exact⟨.inr rfl,_,(ar1 h1),rfl,(s2.weak g1 hs.zv)⟩
structure Nd.B7 (T:FuncId→Option AFunc):Prop where
 own:Has T I.B7 F.B7
 D1:Nd.D1 T
 E3:Nd.E3 T
theorem X.B7 (nd:Nd.B7 T){v1:Value}{a0:(List Int)}{a1:Int}{a2:Int}(hs:Sat Z V H [])(hp1:RdS Sh.int V v1 a0){r:(Int×Int)}(e:P.B7 a0 a1 a2=some r):
 G T I.B7 [v1,vi a1,vi a2] H (fun rv H'=>rv=(.tuple #[vi r.1,vi r.2])∧Sat Z V H' []):=by
 unfold P.B7 at e
 refine bB nd.own (af (aa (v:=vi 0) rfl (aa (v:=vi 0) rfl (ae (af (aa (v:=vi a2) rfl (aa (v:=vi a1) rfl (bz rfl rfl (aa (v:=vi (Pu.W (a2-a1))) rfl (ae (af (bv hs fun b1 H1 s1=>ae (af (aa (v:=vi a1) rfl (aa (v:=vi (Pu.W (a2-a1))) rfl ?_)))))))))))))))
 obtain⟨x1,q1,e⟩:=oB e
 refine fU rfl rfl q1 (dO rfl rfl (az rfl rfl (aa (v:=vi (Pu.W (a1+(Pu.W (x1*1))))) rfl (ae (ap (P:=fun tm=>tm 0=v1∧tm 1=vi a1∧tm 8=(vi (Pu.W (a2-a1)))∧tm 9=(pV b1 0)∧tm 10=(vi (Pu.W (a1+(Pu.W (x1*1)))))∧True) ⟨rfl,rfl,rfl,rfl,rfl,trivial⟩ ?_)))))
 intro _ i1
 obtain⟨h1,h2,h3,h4,h5,-⟩:=i1
 refine af (aa h2 (aa h3 ?_))
 obtain⟨x2,q2,e⟩:=oB e
 refine fU rfl rfl q2 (dO rfl rfl (az rfl rfl (aa (v:=vi (Pu.W (a1+(Pu.W (x2*2))))) rfl (ae (af (aa h2 (aa h3 ?_)))))))
 obtain⟨x3,q3,e⟩:=oB e
 refine fU rfl rfl q3 (dO rfl rfl (az rfl rfl (aa (v:=vi (Pu.W (a1+(Pu.W (x3*3))))) rfl (ae (ap (P:=fun tm=>tm 0=v1∧tm 8=(vi (Pu.W (a2-a1)))∧tm 9=(pV b1 0)∧tm 10=(vi (Pu.W (a1+(Pu.W (x1*1)))))∧tm 11=(vi (Pu.W (a1+(Pu.W (x2*2)))))∧tm 12=(vi (Pu.W (a1+(Pu.W (x3*3)))))∧True) ⟨h1,h3,h4,h5,rfl,rfl,trivial⟩ ?_)))))
 intro _ i2
 obtain⟨h6,h7,h8,h9,h10,h11,-⟩:=i2
 refine ah (af (aa h7 (cd rfl rfl (ae ?_))))
 obtain⟨y1,e1,e⟩:=oB e
 refine bf (I:=fun tm H=>∃(Z1 V1:PH),Gw Z V Z1 V1∧Sat Z1 V1 H [pts b1 (.rw 0 [vi y1.1])]∧tm 9=(pV b1 0)∧tm 11=vi y1.2) (fun k1=>?_) ?_
 ·refine aI rfl (fun q4=>?_) (fun q4=>?_)
  ·replace e1:=ax q4 e1
   refine ah (af (aa h7 (cd rfl rfl (ae ?_))))
   obtain⟨y2,e2,e1⟩:=oB e1
   refine bf (I:=fun tm H=>∃(Z2 V2:PH),Gw Z V Z2 V2∧Sat Z2 V2 H [pts b1 (.rw 0 [vi y2.1])]∧tm 0=v1∧tm 9=(pV b1 0)∧tm 10=vi y2.2.1∧tm 11=vi y2.2.2.1∧tm 12=vi y2.2.2.2) (fun k2=>?_) ?_
   ·refine aI rfl (fun q5=>?_) (fun q5=>?_)
    ·replace e2:=ax q5 e2
     refine af (aa h6 (aa h9 ?_))
     obtain⟨x4,q6,e2⟩:=oB e2
     obtain⟨Z3,V3,W1,g3,u1,c1,c2,-,c4,c3⟩:=Sat.call (l1:=[pts b1 (.rw 0 [vi 0])]) (l2:=[]) s1
     refine au (mc rfl (mc rfl (mc h8 m0))) (X.D1 nd.D1 (a2:=0) c1 (hp1.mono (g3.v.trans u1)) q6) fun _ H4 i3=>?_
     obtain⟨rfl,s4⟩:=i3
     have s5:=c3 _ _ s4
     refine aa (v:=vi x4.2) rfl (ae (af (aa h6 (aa h10 ?_))))
     obtain⟨x5,q7,e2⟩:=oB e2
     obtain⟨Z4,V4,W2,g4,u2,c5,c6,-,c8,c7⟩:=Sat.call (l1:=[pts b1 (.rw 0 [vi x4.1])]) (l2:=[]) s5
     refine au (mc rfl (mc rfl (mc h8 m0))) (X.D1 nd.D1 (a2:=x4.1) c5 (hp1.mono ((g3.trans g4).v.trans u2)) q7) fun _ H5 i4=>?_
     obtain⟨rfl,s6⟩:=i4
     have s7:=c7 _ _ s6
     refine aa (v:=vi x5.2) rfl (ae (ap (P:=fun tm=>tm 0=v1∧tm 9=(pV b1 0)∧tm 10=vi x4.2∧tm 11=vi x5.2∧tm 12=(vi (Pu.W (a1+(Pu.W (x3*3)))))∧True) ⟨h6,h8,rfl,rfl,h11,trivial⟩ ?_))
     intro _ i5
     obtain⟨h19,h20,h21,h22,h23,-⟩:=i5
     refine bq (aa h19 (aa h23 ?_))
     obtain⟨x6,q8,e2⟩:=oB e2
     obtain⟨Z5,V5,W3,g5,u3,c9,c10,-,c12,c11⟩:=Sat.call (l1:=[pts b1 (.rw 0 [vi x5.1])]) (l2:=[]) s7
     refine au (mc rfl (mc rfl (mc h20 m0))) (X.D1 nd.D1 (a2:=x5.1) c9 (hp1.mono (((g3.trans g4).trans g5).v.trans u3)) q8) fun _ H6 i6=>?_
     obtain⟨rfl,s8⟩:=i6
     have s9:=c11 _ _ s8
     refine aa (v:=vi x6.2) rfl (ae ?_)
     obtain rfl:=oJ e2
     exact k2 _ _ ⟨_,_,(g3.trans (g4.trans g5)),s9,h19,h20,h21,h22,rfl⟩
    replace e2:=bb q5 e2
    refine ar ?_
    obtain rfl:=oJ e2
    exact k2 _ _ ⟨_,_,Gw.refl _ _,s1,h6,h8,h9,h10,h11⟩
   intro _ H3 i7
   obtain⟨Z2,V2,g2,s3,h14,h15,h16,h17,h18⟩:=i7
   refine bq (aa h14 (aa h16 (aa h17 (aa h18 ?_))))
   obtain⟨x7,q9,e1⟩:=oB e1
   obtain⟨Z6,V6,W4,g6,u4,c13,c14,-,c16,c15⟩:=Sat.call (l1:=[pts b1 (.rw 0 [vi y2.1])]) (l2:=[]) s3
   refine au (mc rfl (mc rfl (mc rfl (mc rfl (mc h15 m0))))) (X.E3 nd.E3 (a4:=y2.1) c13 (hp1.mono ((g2.trans g6).v.trans u4)) q9) fun _ H7 i8=>?_
   obtain⟨rfl,s10⟩:=i8
   have s11:=c15 _ _ s10
   refine aa (v:=vi x7.2) rfl (ae ?_)
   obtain rfl:=oJ e1
   exact k1 _ _ ⟨_,_,(g2.trans g6),s11,h15,rfl⟩
  replace e1:=bb q4 e1
  refine ar ?_
  obtain rfl:=oJ e1
  exact k1 _ _ ⟨_,_,Gw.refl _ _,s1,h8,h10⟩
 intro _ H2 i9
 obtain⟨Z1,V1,g1,s2,h12,h13⟩:=i9
 refine af (ak 0 s2 rfl h12 rfl rfl (ae (ay (af (co rfl rfl (aa (v:=.bool (decide (y1.1=0))) rfl (ae (aI rfl (fun q10=>?_) (fun q10=>?_)))))))))
 ·replace e:=ax q10 e
  refine af (aa h13 (aa (v:=vi y1.2) rfl (aa (v:=vi 1) rfl (ae (aL ?_)))))
  obtain rfl:=oJ e
  exact⟨.inr rfl,_,(ar2 rfl rfl),rfl,((s2.pick [] rfl).weak g1 hs.zv)⟩
 replace e:=bb q10 e
 refine af (co rfl rfl (aa (v:=.bool (decide (y1.1=12))) rfl (ae (aI rfl (fun q11=>?_) (fun q11=>?_)))))
 ·replace e:=ax q11 e
  refine af (aa h13 (aa (v:=vi y1.2) rfl (aa (v:=vi 2) rfl (ae (aL ?_)))))
  obtain rfl:=oJ e
  exact⟨.inr rfl,_,(ar2 rfl rfl),rfl,((s2.pick [] rfl).weak g1 hs.zv)⟩
 replace e:=bb q11 e
 refine af (aa h13 (aa (v:=vi y1.2) rfl (aa (v:=vi 0) rfl (ae (aL ?_)))))
 obtain rfl:=oJ e
 exact⟨.inr rfl,_,(ar2 rfl rfl),rfl,((s2.pick [] rfl).weak g1 hs.zv)⟩
structure Nd.C8 (T:FuncId→Option AFunc):Prop where
 own:Has T I.C8 F.C8
theorem X.C8 {T:FuncId→Option AFunc}(nd:Nd.C8 T){φ:Nat}{Z V:PH}{H:Hp}{v1:Value}{a0:(List Int)}{a1:Int}{a2:Int}(hs:Sat Z V H [It.sl Sh.int v1 a0]){r:(List Int)}(e:P.C8 φ a0 a1 a2=some r):
 G T I.C8 [v1,vi a1,vi a2] H (fun rv H'=>rv=undef∧Sat Z V H' [It.sl Sh.int v1 r]):=by
 unfold P.C8 at e
 refine bB nd.own (af (aa (v:=vi a1) rfl (aa (v:=vi a1) rfl (ae (af (aa (v:=vi a2) rfl (bz rfl rfl (aa (v:=vi (Pu.W (a2-1))) rfl (ae ?_)))))))))
 obtain⟨y1,q3,e⟩:=oB e
 refine bf (I:=fun tm H=>∃(s3:((List Int)×Int×Int)),y1= .out s3∧(∃(Z2 V2:PH),Gw Z V Z2 V2∧Sat Z2 V2 H [It.sl Sh.int v1 s3.1]∧tm 0=v1∧tm 6=vi s3.2.1∧tm 7=vi s3.2.2)) (fun k4=>?_) ?_
 ·refine ay (cc (fun(s1:((List Int)×Int×Int)) tm H=>∃(Z1 V1:PH),Gw Z V Z1 V1∧Sat Z1 V1 H [It.sl Sh.int v1 s1.1]∧tm 0=v1∧tm 6=vi s1.2.1∧tm 7=vi s1.2.2) (fun s1 y2 tm H2 j1 e1 k1 k2 k3=>?_) q3 ⟨_,_,Gw.refl _ _,hs,rfl,rfl,rfl⟩)
  obtain⟨Z1,V1,g1,s2,h1,h2,h3⟩:=j1
  unfold P.C8.b0 at e1
  refine ah (af (aa h2 (aa h3 (ao rfl rfl (ae (aI rfl (fun q4=>?_) (fun q4=>?_)))))))
  ·replace e1:=ax q4 e1
   refine ar (ay (ah (aA s2 fun n1 H4 s5 q5 d1=>aj h1 (aj h2 (aj h1 (aj h3 (aj h1 (aj h3 ?_))))))))
   obtain⟨x2,q6,e1⟩:=oB e1
   refine aq (v:=v1) rfl rfl (s5.curS (s:=Sh.int) 0 rfl) rfl q6 fun p1 q7=>aO ((s5.curS 0 rfl).low pR q5) rfl (s5.curS (s:=Sh.int) 0 rfl) pR q7 q6 ?_
   have h7:=aH (s5.curS (s:=Sh.int) 0 rfl) pR q7 q6
   refine aj h1 (aj h2 ?_)
   obtain⟨x3,q8,e1⟩:=oB e1
   refine aq (v:=v1) rfl rfl (s5.curS (s:=Sh.int) 0 rfl) rfl q8 fun p2 q9=>aO ((s5.curS 0 rfl).low pR q5) rfl (s5.curS (s:=Sh.int) 0 rfl) pR q9 q8 ?_
   have h8:=aH (s5.curS (s:=Sh.int) 0 rfl) pR q9 q8
   obtain⟨x4,q10,e1⟩:=oB e1
   refine aq (v:=v1) rfl rfl (s5.curS (s:=Sh.int) 0 rfl) rfl q10 fun p3 q11=>cw 0 s5 rfl Sh.G5 rfl rfl rfl q11 q10 rfl rfl fun H5 s6 k5=>?_
   have d2:=d1.keep k5
   obtain⟨x5,q12,e1⟩:=oB e1
   refine aq (v:=v1) rfl rfl (s6.curS (s:=Sh.int) 0 rfl) rfl q12 fun p4 q13=>cw 0 s6 rfl Sh.G5 rfl rfl rfl q13 q12 rfl rfl fun H6 s7 k6=>?_
   have d3:=d2.keep k6
   refine aQ aK (ap (P:=fun tm=>tm 0=v1∧tm 6=vi s1.2.1∧tm 7=vi s1.2.2∧True) ⟨h1,h2,h3,trivial⟩ ?_)
   intro _ i2
   obtain⟨h9,h10,h11,-⟩:=i2
   refine af (aa h10 (az rfl rfl (aa (v:=vi (Pu.W (s1.2.1+1))) rfl (ae (bq (aa h11 (bz rfl rfl (aa (v:=vi (Pu.W (s1.2.2-1))) rfl (ae (aF ?_))))))))))
   exact k1 _ _ _ (sJ e1) ⟨_,_,g1,s7,h9,rfl,rfl⟩
  replace e1:=bb q4 e1
  refine aR (aU (aU (bT ?_)))
  exact k4 _ _ ⟨_,k2 _ (sJ e1),_,_,g1,s2,h1,h2,h3⟩
 intro _ H3 i3
 obtain⟨s3,f1,Z2,V2,g2,s4,h4,h5,h6⟩:=i3
 replace e:=bD f1 e
 obtain rfl:=oJ e
 refine dk ?_
 exact⟨.inl rfl,_,rfl,rfl,(s4.weak g2 hs.zv)⟩
end Go.Proofs.Ytmfkjilndpchbaa
