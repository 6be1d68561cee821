import Derived.Test.YtmfkjilndpchbaaX1
import Derived.Test.YtmfkjilndpchbaaGapprox
import Derived.Test.YtmfkjilndpchbaaGcmp
import Derived.Test.YtmfkjilndpchbaaGdfa
import Derived.Test.YtmfkjilndpchbaaGgram
import Derived.Test.YtmfkjilndpchbaaGlinear
import Derived.Test.YtmfkjilndpchbaaGmathbits
import Derived.Test.YtmfkjilndpchbaaGmini
import Derived.Test.YtmfkjilndpchbaaGparlkeep5
import Derived.Test.YtmfkjilndpchbaaGparlmake
import Derived.Test.YtmfkjilndpchbaaGslices
import Derived.Test.YtmfkjilndpchbaaGteach
namespace Go.Proofs.Ytmfkjilndpchbaa
open Go Go.Ab
set_option maxHeartbeats 1000000
variable {T:FuncId→Option AFunc}{Z V:PH}{H:Hp}
structure Nd.A7 (T:FuncId→Option AFunc):Prop where
 own:Has T I.A7 F.A7
 D4:Nd.D4 T
theorem X.A7 {T:FuncId→Option AFunc}(nd:Nd.A7 T){φ:Nat}{Z V:PH}{H:Hp}{v1:Value}{a0:(List Int)}{a1:Int}{a2:Int}(hs:Sat Z V H [It.sl Sh.int v1 a0]){r:((List Int)×Bool)}(e:P.A7 φ a0 a1 a2=some r):
 G T I.A7 [v1,vi a1,vi a2] H (fun rv H'=>rv=(.bool r.2)∧Sat Z V H' [It.sl Sh.int v1 r.1]):=by
 unfold P.A7 at e
 refine bB nd.own (af (aa (v:=.bool false) rfl (ae (af (aa (v:=vi a1) rfl (az rfl rfl (aa (v:=vi (Pu.W (a1+1))) rfl (ae (ah (af (aa (v:=vi 0) rfl (ae ?_))))))))))))
 obtain⟨y1,q3,e⟩:=oB e
 refine bf (I:=fun tm H=>∃(s3:((List Int)×Int×Int)),y1= .out s3∧(∃(Z2 V2:PH),Gw Z V Z2 V2∧Sat Z2 V2 H [It.sl Sh.int v1 s3.1]∧tm 0=v1∧tm 1=vi a1∧tm 2=vi a2∧tm 7=vi s3.2.1∧tm 8=vi s3.2.2)) (fun k4=>?_) ?_
 ·refine ay (cc (fun(s1:((List Int)×Int×Int)) tm H=>∃(Z1 V1:PH),Gw Z V Z1 V1∧Sat Z1 V1 H [It.sl Sh.int v1 s1.1]∧tm 0=v1∧tm 1=vi a1∧tm 2=vi a2∧tm 7=vi s1.2.1∧tm 8=vi s1.2.2) (fun s1 y2 tm H2 j1 e1 k1 k2 k3=>?_) q3 ⟨_,_,Gw.refl _ _,hs,rfl,rfl,rfl,rfl,rfl⟩)
  obtain⟨Z1,V1,g1,s2,h1,h2,h3,h4,h5⟩:=j1
  unfold P.A7.b0 at e1
  refine ah (af (aa h5 (ao rfl rfl (ae (aI rfl (fun q4=>?_) (fun q4=>?_))))))
  ·replace e1:=ax q4 e1
   refine ar (ah (ay (ah ?_)))
   obtain⟨y3,q7,e1⟩:=oB e1
   refine bf (I:=fun tm H=>∃(s7:Int),y3= .out s7∧(∃(Z4 V4:PH),Gw Z1 V1 Z4 V4∧Sat Z4 V4 H [It.sl Sh.int v1 s1.1]∧tm 0=v1∧tm 1=vi a1∧tm 2=vi a2∧tm 7=vi s7∧tm 8=vi s1.2.2)) (fun k8=>?_) ?_
   ·refine ay (cc (fun(s5:Int) tm H=>∃(Z3 V3:PH),Gw Z1 V1 Z3 V3∧Sat Z3 V3 H [It.sl Sh.int v1 s1.1]∧tm 0=v1∧tm 1=vi a1∧tm 2=vi a2∧tm 7=vi s5∧tm 8=vi s1.2.2) (fun s5 y4 tm H5 j2 e2 k5 k6 k7=>?_) q7 ⟨_,_,Gw.refl _ _,s2,h1,h2,h3,h4,h5⟩)
    obtain⟨Z3,V3,g3,s6,h11,h12,h13,h14,h15⟩:=j2
    unfold P.A7.b1 at e2
    refine ah (ah (aA s6 fun n1 H7 s9 q8 d1=>aj h14 (aj h13 (jF rfl rfl (aj (v:=.bool (decide (s5<a2))) rfl ?_)))))
    obtain⟨y5,e3,e2⟩:=oB e2
    refine dn 12 (I:=fun tm H=>DD n1 16 (List.length F.A7.r5) H∧(∃(Z5 V5:PH),Gw Z3 V3 Z5 V5∧Sat Z5 V5 H [It.sl Sh.int v1 s1.1]∧tm 0=v1∧tm 1=vi a1∧tm 2=vi a2∧tm 7=vi s5∧tm 8=vi s1.2.2∧tm 32=(.bool y5))) (fun k9=>?_) ?_
    ·rcases Bool.eq_false_or_eq_true (decide (s5<a2)) with q9|q9
     ·replace e3:=ax q9 e3
      refine ai rfl q9 (aj h11 (ai rfl q9 (aj h14 (ai rfl q9 ?_))))
      obtain⟨x3,q10,e3⟩:=oB e3
      refine aq (v:=v1) rfl rfl (s9.curS (s:=Sh.int) 0 rfl) rfl q10 fun p1 q11=>ai rfl q9 (aO ((s9.curS 0 rfl).low pR q8) rfl (s9.curS (s:=Sh.int) 0 rfl) pR q11 q10 ?_)
      have h27:=aH (s9.curS (s:=Sh.int) 0 rfl) pR q11 q10
      refine ai rfl q9 (aj h11 (ai rfl q9 (aj h14 (ai rfl q9 (df rfl rfl (ai rfl q9 ?_))))))
      obtain⟨x4,q12,e3⟩:=oB e3
      refine aq (v:=v1) rfl rfl (s9.curS (s:=Sh.int) 0 rfl) rfl q12 fun p2 q13=>ai rfl q9 (aO ((s9.curS 0 rfl).low pR q8) rfl (s9.curS (s:=Sh.int) 0 rfl) pR q13 q12 ?_)
      have h28:=aH (s9.curS (s:=Sh.int) 0 rfl) pR q13 q12
      refine ai rfl q9 ?_
      obtain⟨x5,q14,e3⟩:=oB e3
      obtain⟨Z6,V6,W1,g6,u1,c1,c2,-,c4,c3⟩:=Sat.call (l1:=[]) s9
      refine bK (mc rfl (mc rfl m0)) (X.D4 nd.D4 c1 q14) fun _ H9 i3 k10=>?_
      have d2:=d1.keep k10
      obtain⟨rfl,s11⟩:=i3
      have s12:=c3 _ _ s11
      have h29:=aH (c2 0 _ Sh.int _ _ rfl) s11.v q11 q10
      have h30:=aH (c2 0 _ Sh.int _ _ rfl) s11.v q13 q12
      refine ai rfl q9 (dJ rfl (bJ (a:=.bool (!x5)) rfl q9 rfl ?_))
      obtain rfl:=oJ e3
      exact k9 _ _ _ ⟨d2.up rfl,_,_,g6,s12,h11,h12,h13,h14,h15,rfl⟩
     replace e3:=aS q9 e3
     refine aw rfl q9 (aw rfl q9 (aw rfl q9 (aw rfl q9 (aw rfl q9 (aw rfl q9 (aw rfl q9 (aw rfl q9 (aw rfl q9 (aw rfl q9 (aw rfl q9 (bI (b:=.bool false) rfl q9 rfl ?_)))))))))))
     obtain rfl:=oJ e3
     exact k9 _ _ _ ⟨d1.up rfl,_,_,Gw.refl _ _,s9,h11,h12,h13,h14,h15,rfl⟩
    intro _ H8 _ i4
    obtain⟨d3,Z5,V5,g5,s10,h21,h22,h23,h24,h25,h26⟩:=i4
    refine aQ aK (bx h26 (fun q15=>?_) (fun q15=>?_))
    ·replace e2:=ax q15 e2
     refine ar (ay (bq (aa h24 (az rfl rfl (aa (v:=vi (Pu.W (s5+1))) rfl (ae (aF ?_)))))))
     exact k5 _ _ _ (sJ e2) ⟨_,_,(g3.trans g5),s10,h21,h22,h23,rfl,h25⟩
    replace e2:=aS q15 e2
    refine aR (aU (aU (bT ?_)))
    exact k8 _ _ ⟨_,k6 _ (sJ e2),_,_,(g3.trans g5),s10,h21,h22,h23,h24,h25⟩
   intro _ H6 i5
   obtain⟨s7,f1,Z4,V4,g4,s8,h16,h17,h18,h19,h20⟩:=i5
   replace e1:=bD f1 e1
   refine ah (af (aa h19 (aa h18 (co rfl rfl (ae (aI rfl (fun q16=>?_) (fun q16=>?_)))))))
   ·replace e1:=ax q16 e1
    refine af (aa (v:=.bool true) rfl (ae (aL ?_)))
    have e4:=ci (k3 _ (sJ e1)) e
    obtain rfl:=oJ e4
    exact⟨.inr rfl,_,(ar1 rfl),rfl,(s8.weak (g1.trans g4) hs.zv)⟩
   replace e1:=bb q16 e1
   refine ar (ah (af (aa h18 (aa h17 (bz rfl rfl (ao rfl rfl (ae (aI rfl (fun q17=>?_) (fun q17=>?_)))))))))
   ·replace e1:=ax q17 e1
    refine af (aa (v:=.bool false) rfl (ae (aL ?_)))
    have e5:=ci (k3 _ (sJ e1)) e
    obtain rfl:=oJ e5
    exact⟨.inr rfl,_,(ar1 rfl),rfl,(s8.weak (g1.trans g4) hs.zv)⟩
   replace e1:=bb q17 e1
   refine ar (ah (ap (P:=fun tm=>tm 0=v1∧tm 1=vi a1∧tm 2=vi a2∧tm 7=vi s7∧tm 8=vi s1.2.2∧True) ⟨h16,h17,h18,h19,h20,trivial⟩ ?_))
   intro _ i6
   obtain⟨h31,h32,h33,h34,h35,-⟩:=i6
   refine aA s8 fun n2 H10 s13 q18 d4=>aj h31 (aj h34 (aj h31 (aj h34 (df rfl rfl (aj h31 (aj h34 (df rfl rfl ?_)))))))
   obtain⟨x6,q19,e1⟩:=oB e1
   refine aq (v:=v1) rfl rfl (s13.curS (s:=Sh.int) 0 rfl) rfl q19 fun p3 q20=>aO ((s13.curS 0 rfl).low pR q18) rfl (s13.curS (s:=Sh.int) 0 rfl) pR q20 q19 ?_
   have h36:=aH (s13.curS (s:=Sh.int) 0 rfl) pR q20 q19
   refine aj h31 (aj h34 ?_)
   obtain⟨x7,q21,e1⟩:=oB e1
   refine aq (v:=v1) rfl rfl (s13.curS (s:=Sh.int) 0 rfl) rfl q21 fun p4 q22=>aO ((s13.curS 0 rfl).low pR q18) rfl (s13.curS (s:=Sh.int) 0 rfl) pR q22 q21 ?_
   have h37:=aH (s13.curS (s:=Sh.int) 0 rfl) pR q22 q21
   obtain⟨x8,q23,e1⟩:=oB e1
   refine aq (v:=v1) rfl rfl (s13.curS (s:=Sh.int) 0 rfl) rfl q23 fun p5 q24=>cw 0 s13 rfl Sh.G5 rfl rfl rfl q24 q23 rfl rfl fun H11 s14 k11=>?_
   have d5:=d4.keep k11
   obtain⟨x9,q25,e1⟩:=oB e1
   refine aq (v:=v1) rfl rfl (s14.curS (s:=Sh.int) 0 rfl) rfl q25 fun p6 q26=>cw 0 s14 rfl Sh.G5 rfl rfl rfl q26 q25 rfl rfl fun H12 s15 k12=>?_
   have d6:=d5.keep k12
   refine aQ aK (ap (P:=fun tm=>tm 0=v1∧tm 1=vi a1∧tm 2=vi a2∧tm 7=vi s7∧tm 8=vi s1.2.2∧True) ⟨h31,h32,h33,h34,h35,trivial⟩ ?_)
   intro _ i7
   obtain⟨h38,h39,h40,h41,h42,-⟩:=i7
   refine ah (af (aa h41 (aa h39 (bz rfl rfl (cd rfl rfl (ae ?_))))))
   obtain⟨y6,e6,e1⟩:=oB e1
   refine bf (I:=fun tm H=>∃(Z7 V7:PH),Gw Z4 V4 Z7 V7∧Sat Z7 V7 H [It.sl Sh.int v1 y6]∧tm 0=v1∧tm 1=vi a1∧tm 2=vi a2∧tm 7=vi s7∧tm 8=vi s1.2.2) (fun k13=>?_) ?_
   ·refine aI rfl (fun q27=>?_) (fun q27=>?_)
    ·replace e6:=ax q27 e6
     refine af (aa h41 (bz rfl rfl (aa (v:=vi (Pu.W (s7-1))) rfl (ae ?_))))
     obtain⟨y7,q30,e6⟩:=oB e6
     refine bf (I:=fun tm H=>∃(s19:((List Int)×Int)),y7= .out s19∧(∃(Z9 V9:PH),Gw Z4 V4 Z9 V9∧Sat Z9 V9 H [It.sl Sh.int v1 s19.1]∧tm 0=v1∧tm 1=vi a1∧tm 2=vi a2∧tm 7=vi s7∧tm 8=vi s1.2.2∧tm 9=vi s19.2)) (fun k17=>?_) ?_
     ·refine ay (cc (fun(s17:((List Int)×Int)) tm H=>∃(Z8 V8:PH),Gw Z4 V4 Z8 V8∧Sat Z8 V8 H [It.sl Sh.int v1 s17.1]∧tm 0=v1∧tm 1=vi a1∧tm 2=vi a2∧tm 7=vi s7∧tm 8=vi s1.2.2∧tm 9=vi s17.2) (fun s17 y8 tm H15 j3 e7 k14 k15 k16=>?_) q30 ⟨_,_,Gw.refl _ _,s15,h38,h39,h40,h41,h42,rfl⟩)
      obtain⟨Z8,V8,g8,s18,h48,h49,h50,h51,h52,h53⟩:=j3
      unfold P.A7.b2 at e7
      refine ah (af (aa h53 (cd rfl rfl (ae (aI rfl (fun q31=>?_) (fun q31=>?_))))))
      ·replace e7:=ax q31 e7
       refine ar (ah (ay (ah (ah (aA s18 fun n3 H17 s21 q32 d7=>aj h48 (aj h53 ?_))))))
       obtain⟨x11,q33,e7⟩:=oB e7
       refine aq (v:=v1) rfl rfl (s21.curS (s:=Sh.int) 0 rfl) rfl q33 fun p7 q34=>aO ((s21.curS 0 rfl).low pR q32) rfl (s21.curS (s:=Sh.int) 0 rfl) pR q34 q33 ?_
       have h60:=aH (s21.curS (s:=Sh.int) 0 rfl) pR q34 q33
       refine aj h48 (aj h53 (df rfl rfl ?_))
       obtain⟨x12,q35,e7⟩:=oB e7
       refine aq (v:=v1) rfl rfl (s21.curS (s:=Sh.int) 0 rfl) rfl q35 fun p8 q36=>aO ((s21.curS 0 rfl).low pR q32) rfl (s21.curS (s:=Sh.int) 0 rfl) pR q36 q35 ?_
       have h61:=aH (s21.curS (s:=Sh.int) 0 rfl) pR q36 q35
       obtain⟨x13,q37,e7⟩:=oB e7
       obtain⟨Z10,V10,W2,g10,u2,c5,c6,-,c8,c7⟩:=Sat.call (l1:=[]) s21
       refine bK (mc rfl (mc rfl m0)) (X.D4 nd.D4 c5 q37) fun _ H18 i9 k18=>?_
       have d8:=d7.keep k18
       obtain⟨rfl,s22⟩:=i9
       have s23:=c7 _ _ s22
       have h62:=aH (c6 0 _ Sh.int _ _ rfl) s22.v q34 q33
       have h63:=aH (c6 0 _ Sh.int _ _ rfl) s22.v q36 q35
       refine dJ rfl (aQ aK (ap (P:=fun tm=>tm 0=v1∧tm 1=vi a1∧tm 2=vi a2∧tm 7=vi s7∧tm 8=vi s1.2.2∧tm 9=vi s17.2∧tm 78=(.bool (!x13))∧True) ⟨h48,h49,h50,h51,h52,h53,rfl,trivial⟩ ?_))
       intro _ i10
       obtain⟨h64,h65,h66,h67,h68,h69,h70,-⟩:=i10
       refine bx h70 (fun q38=>?_) (fun q38=>?_)
       ·replace e7:=ax q38 e7
        refine aR (aU (kq rfl (aU (aU (bT ?_)))))
        exact k17 _ _ ⟨_,k15 _ (sJ e7),_,_,(g8.trans g10),s23,h64,h65,h66,h67,h68,h69⟩
       replace e7:=aS q38 e7
       refine ar (aA s23 fun n4 H19 s24 q39 d9=>aj h64 (aj h69 (aj h64 (aj h69 (df rfl rfl (aj h64 (aj h69 (df rfl rfl ?_))))))))
       obtain⟨x14,q40,e7⟩:=oB e7
       refine aq (v:=v1) rfl rfl (s24.curS (s:=Sh.int) 0 rfl) rfl q40 fun p9 q41=>aO ((s24.curS 0 rfl).low pR q39) rfl (s24.curS (s:=Sh.int) 0 rfl) pR q41 q40 ?_
       have h71:=aH (s24.curS (s:=Sh.int) 0 rfl) pR q41 q40
       refine aj h64 (aj h69 ?_)
       obtain⟨x15,q42,e7⟩:=oB e7
       refine aq (v:=v1) rfl rfl (s24.curS (s:=Sh.int) 0 rfl) rfl q42 fun p10 q43=>aO ((s24.curS 0 rfl).low pR q39) rfl (s24.curS (s:=Sh.int) 0 rfl) pR q43 q42 ?_
       have h72:=aH (s24.curS (s:=Sh.int) 0 rfl) pR q43 q42
       obtain⟨x16,q44,e7⟩:=oB e7
       refine aq (v:=v1) rfl rfl (s24.curS (s:=Sh.int) 0 rfl) rfl q44 fun p11 q45=>cw 0 s24 rfl Sh.G5 rfl rfl rfl q45 q44 rfl rfl fun H20 s25 k19=>?_
       have d10:=d9.keep k19
       obtain⟨x17,q46,e7⟩:=oB e7
       refine aq (v:=v1) rfl rfl (s25.curS (s:=Sh.int) 0 rfl) rfl q46 fun p12 q47=>cw 0 s25 rfl Sh.G5 rfl rfl rfl q47 q46 rfl rfl fun H21 s26 k20=>?_
       have d11:=d10.keep k20
       refine aQ aK (aF (bq (aa h69 (bz rfl rfl (aa (v:=vi (Pu.W (s17.2-1))) rfl (ae ?_))))))
       exact k14 _ _ _ (sJ e7) ⟨_,_,(g8.trans g10),s26,h64,h65,h66,h67,h68,rfl⟩
      replace e7:=bb q31 e7
      refine aR (aU (aU (bT ?_)))
      exact k17 _ _ ⟨_,k15 _ (sJ e7),_,_,g8,s18,h48,h49,h50,h51,h52,h53⟩
     intro _ H16 i11
     obtain⟨s19,f2,Z9,V9,g9,s20,h54,h55,h56,h57,h58,h59⟩:=i11
     replace e6:=bD f2 e6
     obtain rfl:=oJ e6
     exact k13 _ _ ⟨_,_,g9,s20,h54,h55,h56,h57,h58⟩
    replace e6:=bb q27 e6
    refine ar ?_
    obtain rfl:=oJ e6
    exact k13 _ _ ⟨_,_,Gw.refl _ _,s15,h38,h39,h40,h41,h42⟩
   intro _ H13 i12
   obtain⟨Z7,V7,g7,s16,h43,h44,h45,h46,h47⟩:=i12
   refine af (aa h45 (aa h46 (bz rfl rfl (cd rfl rfl (ae ?_)))))
   obtain⟨y9,e8,e1⟩:=oB e1
   refine bf (I:=fun tm H=>∃(Z11 V11:PH),Gw Z7 V7 Z11 V11∧Sat Z11 V11 H [It.sl Sh.int v1 y9]∧tm 0=v1∧tm 1=vi a1∧tm 2=vi a2∧tm 7=vi s7∧tm 8=vi s1.2.2) (fun k21=>?_) ?_
   ·refine aI rfl (fun q48=>?_) (fun q48=>?_)
    ·replace e8:=ax q48 e8
     refine af (aa h46 (az rfl rfl (aa (v:=vi (Pu.W (s7+1))) rfl (ae ?_))))
     obtain⟨y10,q51,e8⟩:=oB e8
     refine bf (I:=fun tm H=>∃(s30:((List Int)×Int)),y10= .out s30∧(∃(Z13 V13:PH),Gw Z7 V7 Z13 V13∧Sat Z13 V13 H [It.sl Sh.int v1 s30.1]∧tm 0=v1∧tm 1=vi a1∧tm 2=vi a2∧tm 7=vi s7∧tm 8=vi s1.2.2∧tm 10=vi s30.2)) (fun k25=>?_) ?_
     ·refine ay (cc (fun(s28:((List Int)×Int)) tm H=>∃(Z12 V12:PH),Gw Z7 V7 Z12 V12∧Sat Z12 V12 H [It.sl Sh.int v1 s28.1]∧tm 0=v1∧tm 1=vi a1∧tm 2=vi a2∧tm 7=vi s7∧tm 8=vi s1.2.2∧tm 10=vi s28.2) (fun s28 y11 tm H24 j4 e9 k22 k23 k24=>?_) q51 ⟨_,_,Gw.refl _ _,s16,h43,h44,h45,h46,h47,rfl⟩)
      obtain⟨Z12,V12,g12,s29,h78,h79,h80,h81,h82,h83⟩:=j4
      unfold P.A7.b3 at e9
      refine ah (af (aa h83 (aa h80 (ao rfl rfl (ae (aI rfl (fun q52=>?_) (fun q52=>?_)))))))
      ·replace e9:=ax q52 e9
       refine ar (ah (ay (ah (ah (aA s29 fun n5 H26 s32 q53 d12=>aj h78 (aj h83 ?_))))))
       obtain⟨x19,q54,e9⟩:=oB e9
       refine aq (v:=v1) rfl rfl (s32.curS (s:=Sh.int) 0 rfl) rfl q54 fun p13 q55=>aO ((s32.curS 0 rfl).low pR q53) rfl (s32.curS (s:=Sh.int) 0 rfl) pR q55 q54 ?_
       have h90:=aH (s32.curS (s:=Sh.int) 0 rfl) pR q55 q54
       refine aj h78 (aj h83 (df rfl rfl ?_))
       obtain⟨x20,q56,e9⟩:=oB e9
       refine aq (v:=v1) rfl rfl (s32.curS (s:=Sh.int) 0 rfl) rfl q56 fun p14 q57=>aO ((s32.curS 0 rfl).low pR q53) rfl (s32.curS (s:=Sh.int) 0 rfl) pR q57 q56 ?_
       have h91:=aH (s32.curS (s:=Sh.int) 0 rfl) pR q57 q56
       obtain⟨x21,q58,e9⟩:=oB e9
       obtain⟨Z14,V14,W3,g14,u3,c9,c10,-,c12,c11⟩:=Sat.call (l1:=[]) s32
       refine bK (mc rfl (mc rfl m0)) (X.D4 nd.D4 c9 q58) fun _ H27 i14 k26=>?_
       have d13:=d12.keep k26
       obtain⟨rfl,s33⟩:=i14
       have s34:=c11 _ _ s33
       have h92:=aH (c10 0 _ Sh.int _ _ rfl) s33.v q55 q54
       have h93:=aH (c10 0 _ Sh.int _ _ rfl) s33.v q57 q56
       refine dJ rfl (aQ aK (ap (P:=fun tm=>tm 0=v1∧tm 1=vi a1∧tm 2=vi a2∧tm 7=vi s7∧tm 8=vi s1.2.2∧tm 10=vi s28.2∧tm 116=(.bool (!x21))∧True) ⟨h78,h79,h80,h81,h82,h83,rfl,trivial⟩ ?_))
       intro _ i15
       obtain⟨h94,h95,h96,h97,h98,h99,h100,-⟩:=i15
       refine bx h100 (fun q59=>?_) (fun q59=>?_)
       ·replace e9:=ax q59 e9
        refine aR (aU (kq rfl (aU (aU (bT ?_)))))
        exact k25 _ _ ⟨_,k23 _ (sJ e9),_,_,(g12.trans g14),s34,h94,h95,h96,h97,h98,h99⟩
       replace e9:=aS q59 e9
       refine ar (aA s34 fun n6 H28 s35 q60 d14=>aj h94 (aj h99 (aj h94 (aj h99 (df rfl rfl (aj h94 (aj h99 (df rfl rfl ?_))))))))
       obtain⟨x22,q61,e9⟩:=oB e9
       refine aq (v:=v1) rfl rfl (s35.curS (s:=Sh.int) 0 rfl) rfl q61 fun p15 q62=>aO ((s35.curS 0 rfl).low pR q60) rfl (s35.curS (s:=Sh.int) 0 rfl) pR q62 q61 ?_
       have h101:=aH (s35.curS (s:=Sh.int) 0 rfl) pR q62 q61
       refine aj h94 (aj h99 ?_)
       obtain⟨x23,q63,e9⟩:=oB e9
       refine aq (v:=v1) rfl rfl (s35.curS (s:=Sh.int) 0 rfl) rfl q63 fun p16 q64=>aO ((s35.curS 0 rfl).low pR q60) rfl (s35.curS (s:=Sh.int) 0 rfl) pR q64 q63 ?_
       have h102:=aH (s35.curS (s:=Sh.int) 0 rfl) pR q64 q63
       obtain⟨x24,q65,e9⟩:=oB e9
       refine aq (v:=v1) rfl rfl (s35.curS (s:=Sh.int) 0 rfl) rfl q65 fun p17 q66=>cw 0 s35 rfl Sh.G5 rfl rfl rfl q66 q65 rfl rfl fun H29 s36 k27=>?_
       have d15:=d14.keep k27
       obtain⟨x25,q67,e9⟩:=oB e9
       refine aq (v:=v1) rfl rfl (s36.curS (s:=Sh.int) 0 rfl) rfl q67 fun p18 q68=>cw 0 s36 rfl Sh.G5 rfl rfl rfl q68 q67 rfl rfl fun H30 s37 k28=>?_
       have d16:=d15.keep k28
       refine aQ aK (aF (bq (aa h99 (az rfl rfl (aa (v:=vi (Pu.W (s28.2+1))) rfl (ae ?_))))))
       exact k22 _ _ _ (sJ e9) ⟨_,_,(g12.trans g14),s37,h94,h95,h96,h97,h98,rfl⟩
      replace e9:=bb q52 e9
      refine aR (aU (aU (bT ?_)))
      exact k25 _ _ ⟨_,k23 _ (sJ e9),_,_,g12,s29,h78,h79,h80,h81,h82,h83⟩
     intro _ H25 i16
     obtain⟨s30,f3,Z13,V13,g13,s31,h84,h85,h86,h87,h88,h89⟩:=i16
     replace e8:=bD f3 e8
     obtain rfl:=oJ e8
     exact k21 _ _ ⟨_,_,g13,s31,h84,h85,h86,h87,h88⟩
    replace e8:=bb q48 e8
    refine ar ?_
    obtain rfl:=oJ e8
    exact k21 _ _ ⟨_,_,Gw.refl _ _,s16,h43,h44,h45,h46,h47⟩
   intro _ H22 i17
   obtain⟨Z11,V11,g11,s27,h73,h74,h75,h76,h77⟩:=i17
   refine aF (bq (aa h77 (az rfl rfl (aa (v:=vi (Pu.W (s1.2.2+1))) rfl (ae ?_)))))
   exact k1 _ _ _ (sJ e1) ⟨_,_,(g1.trans (g4.trans (g7.trans g11))),s27,h73,h74,h75,h76,rfl⟩
  replace e1:=bb q4 e1
  refine aR (aU (aU (bT ?_)))
  exact k4 _ _ ⟨_,k2 _ (sJ e1),_,_,g1,s2,h1,h2,h3,h4,h5⟩
 intro _ H3 i18
 obtain⟨s3,f4,Z2,V2,g2,s4,h6,h7,h8,h9,h10⟩:=i18
 replace e:=bD f4 e
 refine af (aa (v:=.bool false) rfl (ae (aL ?_)))
 obtain rfl:=oJ e
 exact⟨.inr rfl,_,(ar1 rfl),rfl,(s4.weak g2 hs.zv)⟩
structure Nd.B2 (T:FuncId→Option AFunc):Prop where
 own:Has T I.B2 F.B2
 D4:Nd.D4 T
theorem X.B2 {T:FuncId→Option AFunc}(nd:Nd.B2 T){φ:Nat}{Z V:PH}{H:Hp}{v1:Value}{a0:(List Int)}{a1:Int}{a2:Int}{a3:Int}(hs:Sat Z V H [It.sl Sh.int v1 a0]){r:((List Int)×Int)}(e:P.B2 φ a0 a1 a2 a3=some r):
 G T I.B2 [v1,vi a1,vi a2,vi a3] H (fun rv H'=>rv=vi r.2∧Sat Z V H' [It.sl Sh.int v1 r.1]):=by
 unfold P.B2 at e
 refine bB nd.own (af (aa (v:=vi 0) rfl (ae (ah (aA hs fun n1 H1 s1 q1 d1=>aj (v:=v1) rfl (aj (v:=vi a1) rfl (aj (v:=v1) rfl (aj (v:=vi a3) rfl (aj (v:=v1) rfl (aj (v:=vi a3) rfl ?_))))))))))
 obtain⟨x1,q2,e⟩:=oB e
 refine aq (v:=v1) rfl rfl (s1.curS (s:=Sh.int) 0 rfl) rfl q2 fun p1 q3=>aO ((s1.curS 0 rfl).low pR q1) rfl (s1.curS (s:=Sh.int) 0 rfl) pR q3 q2 ?_
 have h1:=aH (s1.curS (s:=Sh.int) 0 rfl) pR q3 q2
 refine aj (v:=v1) rfl (aj (v:=vi a1) rfl ?_)
 obtain⟨x2,q4,e⟩:=oB e
 refine aq (v:=v1) rfl rfl (s1.curS (s:=Sh.int) 0 rfl) rfl q4 fun p2 q5=>aO ((s1.curS 0 rfl).low pR q1) rfl (s1.curS (s:=Sh.int) 0 rfl) pR q5 q4 ?_
 have h2:=aH (s1.curS (s:=Sh.int) 0 rfl) pR q5 q4
 obtain⟨x3,q6,e⟩:=oB e
 refine aq (v:=v1) rfl rfl (s1.curS (s:=Sh.int) 0 rfl) rfl q6 fun p3 q7=>cw 0 s1 rfl Sh.G5 rfl rfl rfl q7 q6 rfl rfl fun H2 s2 k1=>?_
 have d2:=d1.keep k1
 obtain⟨x4,q8,e⟩:=oB e
 refine aq (v:=v1) rfl rfl (s2.curS (s:=Sh.int) 0 rfl) rfl q8 fun p4 q9=>cw 0 s2 rfl Sh.G5 rfl rfl rfl q9 q8 rfl rfl fun H3 s3 k2=>?_
 have d3:=d2.keep k2
 refine aQ aK (ap (P:=fun tm=>tm 0=v1∧tm 1=vi a1∧tm 2=vi a2∧True) ⟨rfl,rfl,rfl,trivial⟩ ?_)
 intro _ i1
 obtain⟨h3,h4,h5,-⟩:=i1
 refine af (aa h4 (az rfl rfl (aa h5 (bz rfl rfl (aa (v:=vi (Pu.W (a1+1))) rfl (aa (v:=vi (Pu.W (a2-1))) rfl (ae (ah ?_))))))))
 obtain⟨y1,q12,e⟩:=oB e
 refine bf (I:=fun tm H=>∃(s6:((List Int)×Int×Int)),y1= .out s6∧(∃(Z2 V2:PH),Gw Z V Z2 V2∧Sat Z2 V2 H [It.sl Sh.int v1 s6.1]∧tm 0=v1∧tm 1=vi a1∧tm 9=vi s6.2.1∧tm 10=vi s6.2.2)) (fun k6=>?_) ?_
 ·refine ay (cc (fun(s4:((List Int)×Int×Int)) tm H=>∃(Z1 V1:PH),Gw Z V Z1 V1∧Sat Z1 V1 H [It.sl Sh.int v1 s4.1]∧tm 0=v1∧tm 1=vi a1∧tm 9=vi s4.2.1∧tm 10=vi s4.2.2) (fun s4 y2 tm H5 j1 e1 k3 k4 k5=>?_) q12 ⟨_,_,Gw.refl _ _,s3,h3,h4,rfl,rfl⟩)
  obtain⟨Z1,V1,g1,s5,h6,h7,h8,h9⟩:=j1
  unfold P.B2.b0 at e1
  refine ay (ah ?_)
  obtain⟨y3,q15,e1⟩:=oB e1
  refine bf (I:=fun tm H=>∃(s10:Int),y3= .out s10∧(∃(Z4 V4:PH),Gw Z1 V1 Z4 V4∧Sat Z4 V4 H [It.sl Sh.int v1 s4.1]∧tm 0=v1∧tm 1=vi a1∧tm 9=vi s10∧tm 10=vi s4.2.2)) (fun k10=>?_) ?_
  ·refine ay (cc (fun(s8:Int) tm H=>∃(Z3 V3:PH),Gw Z1 V1 Z3 V3∧Sat Z3 V3 H [It.sl Sh.int v1 s4.1]∧tm 0=v1∧tm 1=vi a1∧tm 9=vi s8∧tm 10=vi s4.2.2) (fun s8 y4 tm H8 j2 e2 k7 k8 k9=>?_) q15 ⟨_,_,Gw.refl _ _,s5,h6,h7,h8,h9⟩)
   obtain⟨Z3,V3,g3,s9,h14,h15,h16,h17⟩:=j2
   unfold P.B2.b1 at e2
   refine ah (ah (aA s9 fun n2 H10 s12 q16 d4=>aj h16 (aj h17 (gl rfl rfl (aj (v:=.bool (decide (s8≤s4.2.2))) rfl ?_)))))
   obtain⟨y5,e3,e2⟩:=oB e2
   refine dn 11 (I:=fun tm H=>DD n2 15 (List.length F.B2.r3) H∧(∃(Z5 V5:PH),Gw Z3 V3 Z5 V5∧Sat Z5 V5 H [It.sl Sh.int v1 s4.1]∧tm 0=v1∧tm 1=vi a1∧tm 9=vi s8∧tm 10=vi s4.2.2∧tm 43=(.bool y5))) (fun k11=>?_) ?_
   ·rcases Bool.eq_false_or_eq_true (decide (s8≤s4.2.2)) with q17|q17
    ·replace e3:=ax q17 e3
     refine ai rfl q17 (aj h14 (ai rfl q17 (aj h15 (ai rfl q17 ?_))))
     obtain⟨x7,q18,e3⟩:=oB e3
     refine aq (v:=v1) rfl rfl (s12.curS (s:=Sh.int) 0 rfl) rfl q18 fun p5 q19=>ai rfl q17 (aO ((s12.curS 0 rfl).low pR q16) rfl (s12.curS (s:=Sh.int) 0 rfl) pR q19 q18 ?_)
     have h27:=aH (s12.curS (s:=Sh.int) 0 rfl) pR q19 q18
     refine ai rfl q17 (aj h14 (ai rfl q17 (aj h16 (ai rfl q17 ?_))))
     obtain⟨x8,q20,e3⟩:=oB e3
     refine aq (v:=v1) rfl rfl (s12.curS (s:=Sh.int) 0 rfl) rfl q20 fun p6 q21=>ai rfl q17 (aO ((s12.curS 0 rfl).low pR q16) rfl (s12.curS (s:=Sh.int) 0 rfl) pR q21 q20 ?_)
     have h28:=aH (s12.curS (s:=Sh.int) 0 rfl) pR q21 q20
     refine ai rfl q17 ?_
     obtain⟨x9,q22,e3⟩:=oB e3
     obtain⟨Z6,V6,W1,g6,u1,c1,c2,-,c4,c3⟩:=Sat.call (l1:=[]) s12
     refine bK (mc rfl (mc rfl m0)) (X.D4 nd.D4 c1 q22) fun _ H12 i4 k12=>?_
     have d5:=d4.keep k12
     obtain⟨rfl,s14⟩:=i4
     have s15:=c3 _ _ s14
     have h29:=aH (c2 0 _ Sh.int _ _ rfl) s14.v q19 q18
     have h30:=aH (c2 0 _ Sh.int _ _ rfl) s14.v q21 q20
     refine ai rfl q17 (dJ rfl (bJ (a:=.bool (!x9)) rfl q17 rfl ?_))
     obtain rfl:=oJ e3
     exact k11 _ _ _ ⟨d5.up rfl,_,_,g6,s15,h14,h15,h16,h17,rfl⟩
    replace e3:=aS q17 e3
    refine aw rfl q17 (aw rfl q17 (aw rfl q17 (aw rfl q17 (aw rfl q17 (aw rfl q17 (aw rfl q17 (aw rfl q17 (aw rfl q17 (aw rfl q17 (bI (b:=.bool false) rfl q17 rfl ?_))))))))))
    obtain rfl:=oJ e3
    exact k11 _ _ _ ⟨d4.up rfl,_,_,Gw.refl _ _,s12,h14,h15,h16,h17,rfl⟩
   intro _ H11 _ i5
   obtain⟨d6,Z5,V5,g5,s13,h22,h23,h24,h25,h26⟩:=i5
   refine aQ aK (bx h26 (fun q23=>?_) (fun q23=>?_))
   ·replace e2:=ax q23 e2
    refine ar (ay (bq (aa h24 (az rfl rfl (aa (v:=vi (Pu.W (s8+1))) rfl (ae (aF ?_)))))))
    exact k7 _ _ _ (sJ e2) ⟨_,_,(g3.trans g5),s13,h22,h23,rfl,h25⟩
   replace e2:=aS q23 e2
   refine aR (aU (aU (bT ?_)))
   exact k10 _ _ ⟨_,k8 _ (sJ e2),_,_,(g3.trans g5),s13,h22,h23,h24,h25⟩
  intro _ H9 i6
  obtain⟨s10,f1,Z4,V4,g4,s11,h18,h19,h20,h21⟩:=i6
  replace e1:=bD f1 e1
  refine ah ?_
  obtain⟨y6,q26,e1⟩:=oB e1
  refine bf (I:=fun tm H=>∃(s18:Int),y6= .out s18∧(∃(Z8 V8:PH),Gw Z4 V4 Z8 V8∧Sat Z8 V8 H [It.sl Sh.int v1 s4.1]∧tm 0=v1∧tm 1=vi a1∧tm 9=vi s10∧tm 10=vi s18)) (fun k16=>?_) ?_
  ·refine ay (cc (fun(s16:Int) tm H=>∃(Z7 V7:PH),Gw Z4 V4 Z7 V7∧Sat Z7 V7 H [It.sl Sh.int v1 s4.1]∧tm 0=v1∧tm 1=vi a1∧tm 9=vi s10∧tm 10=vi s16) (fun s16 y7 tm H14 j3 e4 k13 k14 k15=>?_) q26 ⟨_,_,Gw.refl _ _,s11,h18,h19,h20,h21⟩)
   obtain⟨Z7,V7,g7,s17,h31,h32,h33,h34⟩:=j3
   unfold P.B2.b2 at e4
   refine ah (ah (aA s17 fun n3 H16 s20 q27 d7=>aj h33 (aj h34 (gl rfl rfl (aj (v:=.bool (decide (s10≤s16))) rfl ?_)))))
   obtain⟨y8,e5,e4⟩:=oB e4
   refine dn 10 (I:=fun tm H=>DD n3 14 (List.length F.B2.r5) H∧(∃(Z9 V9:PH),Gw Z7 V7 Z9 V9∧Sat Z9 V9 H [It.sl Sh.int v1 s4.1]∧tm 0=v1∧tm 1=vi a1∧tm 9=vi s10∧tm 10=vi s16∧tm 59=(.bool y8))) (fun k17=>?_) ?_
   ·rcases Bool.eq_false_or_eq_true (decide (s10≤s16)) with q28|q28
    ·replace e5:=ax q28 e5
     refine ai rfl q28 (aj h31 (ai rfl q28 (aj h32 (ai rfl q28 ?_))))
     obtain⟨x11,q29,e5⟩:=oB e5
     refine aq (v:=v1) rfl rfl (s20.curS (s:=Sh.int) 0 rfl) rfl q29 fun p7 q30=>ai rfl q28 (aO ((s20.curS 0 rfl).low pR q27) rfl (s20.curS (s:=Sh.int) 0 rfl) pR q30 q29 ?_)
     have h44:=aH (s20.curS (s:=Sh.int) 0 rfl) pR q30 q29
     refine ai rfl q28 (aj h31 (ai rfl q28 (aj h34 (ai rfl q28 ?_))))
     obtain⟨x12,q31,e5⟩:=oB e5
     refine aq (v:=v1) rfl rfl (s20.curS (s:=Sh.int) 0 rfl) rfl q31 fun p8 q32=>ai rfl q28 (aO ((s20.curS 0 rfl).low pR q27) rfl (s20.curS (s:=Sh.int) 0 rfl) pR q32 q31 ?_)
     have h45:=aH (s20.curS (s:=Sh.int) 0 rfl) pR q32 q31
     refine ai rfl q28 ?_
     obtain⟨x13,q33,e5⟩:=oB e5
     obtain⟨Z10,V10,W2,g10,u2,c5,c6,-,c8,c7⟩:=Sat.call (l1:=[]) s20
     refine bK (mc rfl (mc rfl m0)) (X.D4 nd.D4 c5 q33) fun _ H18 i8 k18=>?_
     have d8:=d7.keep k18
     obtain⟨rfl,s22⟩:=i8
     have s23:=c7 _ _ s22
     have h46:=aH (c6 0 _ Sh.int _ _ rfl) s22.v q30 q29
     have h47:=aH (c6 0 _ Sh.int _ _ rfl) s22.v q32 q31
     refine bJ (a:=.bool x13) rfl q28 rfl ?_
     obtain rfl:=oJ e5
     exact k17 _ _ _ ⟨d8.up rfl,_,_,g10,s23,h31,h32,h33,h34,rfl⟩
    replace e5:=aS q28 e5
    refine aw rfl q28 (aw rfl q28 (aw rfl q28 (aw rfl q28 (aw rfl q28 (aw rfl q28 (aw rfl q28 (aw rfl q28 (aw rfl q28 (bI (b:=.bool false) rfl q28 rfl ?_)))))))))
    obtain rfl:=oJ e5
    exact k17 _ _ _ ⟨d7.up rfl,_,_,Gw.refl _ _,s20,h31,h32,h33,h34,rfl⟩
   intro _ H17 _ i9
   obtain⟨d9,Z9,V9,g9,s21,h39,h40,h41,h42,h43⟩:=i9
   refine aQ aK (bx h43 (fun q34=>?_) (fun q34=>?_))
   ·replace e4:=ax q34 e4
    refine ar (ay (bq (aa h42 (bz rfl rfl (aa (v:=vi (Pu.W (s16-1))) rfl (ae (aF ?_)))))))
    exact k13 _ _ _ (sJ e4) ⟨_,_,(g7.trans g9),s21,h39,h40,h41,rfl⟩
   replace e4:=aS q34 e4
   refine aR (aU (aU (bT ?_)))
   exact k16 _ _ ⟨_,k14 _ (sJ e4),_,_,(g7.trans g9),s21,h39,h40,h41,h42⟩
  intro _ H15 i10
  obtain⟨s18,f2,Z8,V8,g8,s19,h35,h36,h37,h38⟩:=i10
  replace e1:=bD f2 e1
  refine ah (af (aa h37 (aa h38 (cC rfl rfl (ae (aI rfl (fun q35=>?_) (fun q35=>?_)))))))
  ·replace e1:=ax q35 e1
   refine aR (aU (kq rfl (aU (bT ?_))))
   exact k6 _ _ ⟨_,k4 _ (sJ e1),_,_,(g1.trans (g4.trans g8)),s19,h35,h36,h37,h38⟩
  replace e1:=bb q35 e1
  refine ar (ah (aA s19 fun n4 H19 s24 q36 d10=>aj h35 (aj h37 (aj h35 (aj h38 (aj h35 (aj h38 ?_)))))))
  obtain⟨x14,q37,e1⟩:=oB e1
  refine aq (v:=v1) rfl rfl (s24.curS (s:=Sh.int) 0 rfl) rfl q37 fun p9 q38=>aO ((s24.curS 0 rfl).low pR q36) rfl (s24.curS (s:=Sh.int) 0 rfl) pR q38 q37 ?_
  have h48:=aH (s24.curS (s:=Sh.int) 0 rfl) pR q38 q37
  refine aj h35 (aj h37 ?_)
  obtain⟨x15,q39,e1⟩:=oB e1
  refine aq (v:=v1) rfl rfl (s24.curS (s:=Sh.int) 0 rfl) rfl q39 fun p10 q40=>aO ((s24.curS 0 rfl).low pR q36) rfl (s24.curS (s:=Sh.int) 0 rfl) pR q40 q39 ?_
  have h49:=aH (s24.curS (s:=Sh.int) 0 rfl) pR q40 q39
  obtain⟨x16,q41,e1⟩:=oB e1
  refine aq (v:=v1) rfl rfl (s24.curS (s:=Sh.int) 0 rfl) rfl q41 fun p11 q42=>cw 0 s24 rfl Sh.G5 rfl rfl rfl q42 q41 rfl rfl fun H20 s25 k19=>?_
  have d11:=d10.keep k19
  obtain⟨x17,q43,e1⟩:=oB e1
  refine aq (v:=v1) rfl rfl (s25.curS (s:=Sh.int) 0 rfl) rfl q43 fun p12 q44=>cw 0 s25 rfl Sh.G5 rfl rfl rfl q44 q43 rfl rfl fun H21 s26 k20=>?_
  have d12:=d11.keep k20
  refine aQ aK (ap (P:=fun tm=>tm 0=v1∧tm 1=vi a1∧tm 9=vi s10∧tm 10=vi s18∧True) ⟨h35,h36,h37,h38,trivial⟩ ?_)
  intro _ i11
  obtain⟨h50,h51,h52,h53,-⟩:=i11
  refine af (aa h52 (az rfl rfl (aa (v:=vi (Pu.W (s10+1))) rfl (ae (bq (aa h53 (bz rfl rfl (aa (v:=vi (Pu.W (s18-1))) rfl (ae (aF ?_))))))))))
  exact k3 _ _ _ (sJ e1) ⟨_,_,(g1.trans (g4.trans g8)),s26,h50,h51,rfl,rfl⟩
 intro _ H6 i12
 obtain⟨s6,f3,Z2,V2,g2,s7,h10,h11,h12,h13⟩:=i12
 replace e:=bD f3 e
 refine af (aa h12 (aa (v:=vi s6.2.1) rfl (ae (aL ?_))))
 obtain rfl:=oJ e
 exact⟨.inr rfl,_,(ar1 rfl),rfl,(s7.weak g2 hs.zv)⟩
structure Nd.B0 (T:FuncId→Option AFunc):Prop where
 own:Has T I.B0 F.B0
 D4:Nd.D4 T
theorem X.B0 {T:FuncId→Option AFunc}(nd:Nd.B0 T){φ:Nat}{Z V:PH}{H:Hp}{v1:Value}{a0:(List Int)}{a1:Int}{a2:Int}{a3:Int}(hs:Sat Z V H [It.sl Sh.int v1 a0]){r:((List Int)×Int×Bool)}(e:P.B0 φ a0 a1 a2 a3=some r):
 G T I.B0 [v1,vi a1,vi a2,vi a3] H (fun rv H'=>rv=(.tuple #[vi r.2.1,(.bool r.2.2)])∧Sat Z V H' [It.sl Sh.int v1 r.1]):=by
 unfold P.B0 at e
 refine bB nd.own (af (aa (v:=vi 0) rfl (aa (v:=.bool false) rfl (ae (ah (aA hs fun n1 H1 s1 q1 d1=>aj (v:=v1) rfl (aj (v:=vi a1) rfl (aj (v:=v1) rfl (aj (v:=vi a3) rfl (aj (v:=v1) rfl (aj (v:=vi a3) rfl ?_)))))))))))
 obtain⟨x1,q2,e⟩:=oB e
 refine aq (v:=v1) rfl rfl (s1.curS (s:=Sh.int) 0 rfl) rfl q2 fun p1 q3=>aO ((s1.curS 0 rfl).low pR q1) rfl (s1.curS (s:=Sh.int) 0 rfl) pR q3 q2 ?_
 have h1:=aH (s1.curS (s:=Sh.int) 0 rfl) pR q3 q2
 refine aj (v:=v1) rfl (aj (v:=vi a1) rfl ?_)
 obtain⟨x2,q4,e⟩:=oB e
 refine aq (v:=v1) rfl rfl (s1.curS (s:=Sh.int) 0 rfl) rfl q4 fun p2 q5=>aO ((s1.curS 0 rfl).low pR q1) rfl (s1.curS (s:=Sh.int) 0 rfl) pR q5 q4 ?_
 have h2:=aH (s1.curS (s:=Sh.int) 0 rfl) pR q5 q4
 obtain⟨x3,q6,e⟩:=oB e
 refine aq (v:=v1) rfl rfl (s1.curS (s:=Sh.int) 0 rfl) rfl q6 fun p3 q7=>cw 0 s1 rfl Sh.G5 rfl rfl rfl q7 q6 rfl rfl fun H2 s2 k1=>?_
 have d2:=d1.keep k1
 obtain⟨x4,q8,e⟩:=oB e
 refine aq (v:=v1) rfl rfl (s2.curS (s:=Sh.int) 0 rfl) rfl q8 fun p4 q9=>cw 0 s2 rfl Sh.G5 rfl rfl rfl q9 q8 rfl rfl fun H3 s3 k2=>?_
 have d3:=d2.keep k2
 refine aQ aK (ap (P:=fun tm=>tm 0=v1∧tm 1=vi a1∧tm 2=vi a2∧True) ⟨rfl,rfl,rfl,trivial⟩ ?_)
 intro _ i1
 obtain⟨h3,h4,h5,-⟩:=i1
 refine af (aa h4 (az rfl rfl (aa h5 (bz rfl rfl (aa (v:=vi (Pu.W (a1+1))) rfl (aa (v:=vi (Pu.W (a2-1))) rfl (ae (ah ?_))))))))
 obtain⟨y1,q12,e⟩:=oB e
 refine bf (I:=fun tm H=>∃(s6:Int),y1= .out s6∧(∃(Z2 V2:PH),Gw Z V Z2 V2∧Sat Z2 V2 H [It.sl Sh.int v1 (Pu.st (Pu.st a0 a1 x1) a3 x2)]∧tm 0=v1∧tm 1=vi a1∧tm 10=vi s6∧tm 11=(vi (Pu.W (a2-1))))) (fun k6=>?_) ?_
 ·refine ay (cc (fun(s4:Int) tm H=>∃(Z1 V1:PH),Gw Z V Z1 V1∧Sat Z1 V1 H [It.sl Sh.int v1 (Pu.st (Pu.st a0 a1 x1) a3 x2)]∧tm 0=v1∧tm 1=vi a1∧tm 10=vi s4∧tm 11=(vi (Pu.W (a2-1)))) (fun s4 y2 tm H5 j1 e1 k3 k4 k5=>?_) q12 ⟨_,_,Gw.refl _ _,s3,h3,h4,rfl,rfl⟩)
  obtain⟨Z1,V1,g1,s5,h6,h7,h8,h9⟩:=j1
  unfold P.B0.b0 at e1
  refine ah (ah (aA s5 fun n2 H7 s8 q13 d4=>aj h8 (aj h9 (gl rfl rfl (aj (v:=.bool (decide (s4≤(Pu.W (a2-1))))) rfl ?_)))))
  obtain⟨y3,e2,e1⟩:=oB e1
  refine dn 10 (I:=fun tm H=>DD n2 14 (List.length F.B0.r3) H∧(∃(Z3 V3:PH),Gw Z1 V1 Z3 V3∧Sat Z3 V3 H [It.sl Sh.int v1 (Pu.st (Pu.st a0 a1 x1) a3 x2)]∧tm 0=v1∧tm 1=vi a1∧tm 10=vi s4∧tm 11=(vi (Pu.W (a2-1)))∧tm 43=(.bool y3))) (fun k7=>?_) ?_
  ·rcases Bool.eq_false_or_eq_true (decide (s4≤(Pu.W (a2-1)))) with q14|q14
   ·replace e2:=ax q14 e2
    refine ai rfl q14 (aj h6 (ai rfl q14 (aj h8 (ai rfl q14 ?_))))
    obtain⟨x6,q15,e2⟩:=oB e2
    refine aq (v:=v1) rfl rfl (s8.curS (s:=Sh.int) 0 rfl) rfl q15 fun p5 q16=>ai rfl q14 (aO ((s8.curS 0 rfl).low pR q13) rfl (s8.curS (s:=Sh.int) 0 rfl) pR q16 q15 ?_)
    have h19:=aH (s8.curS (s:=Sh.int) 0 rfl) pR q16 q15
    refine ai rfl q14 (aj h6 (ai rfl q14 (aj h7 (ai rfl q14 ?_))))
    obtain⟨x7,q17,e2⟩:=oB e2
    refine aq (v:=v1) rfl rfl (s8.curS (s:=Sh.int) 0 rfl) rfl q17 fun p6 q18=>ai rfl q14 (aO ((s8.curS 0 rfl).low pR q13) rfl (s8.curS (s:=Sh.int) 0 rfl) pR q18 q17 ?_)
    have h20:=aH (s8.curS (s:=Sh.int) 0 rfl) pR q18 q17
    refine ai rfl q14 ?_
    obtain⟨x8,q19,e2⟩:=oB e2
    obtain⟨Z4,V4,W1,g4,u1,c1,c2,-,c4,c3⟩:=Sat.call (l1:=[]) s8
    refine bK (mc rfl (mc rfl m0)) (X.D4 nd.D4 c1 q19) fun _ H9 i3 k8=>?_
    have d5:=d4.keep k8
    obtain⟨rfl,s10⟩:=i3
    have s11:=c3 _ _ s10
    have h21:=aH (c2 0 _ Sh.int _ _ rfl) s10.v q16 q15
    have h22:=aH (c2 0 _ Sh.int _ _ rfl) s10.v q18 q17
    refine bJ (a:=.bool x8) rfl q14 rfl ?_
    obtain rfl:=oJ e2
    exact k7 _ _ _ ⟨d5.up rfl,_,_,g4,s11,h6,h7,h8,h9,rfl⟩
   replace e2:=aS q14 e2
   refine aw rfl q14 (aw rfl q14 (aw rfl q14 (aw rfl q14 (aw rfl q14 (aw rfl q14 (aw rfl q14 (aw rfl q14 (aw rfl q14 (bI (b:=.bool false) rfl q14 rfl ?_)))))))))
   obtain rfl:=oJ e2
   exact k7 _ _ _ ⟨d4.up rfl,_,_,Gw.refl _ _,s8,h6,h7,h8,h9,rfl⟩
  intro _ H8 _ i4
  obtain⟨d6,Z3,V3,g3,s9,h14,h15,h16,h17,h18⟩:=i4
  refine aQ aK (bx h18 (fun q20=>?_) (fun q20=>?_))
  ·replace e1:=ax q20 e1
   refine ar (ay (bq (aa h16 (az rfl rfl (aa (v:=vi (Pu.W (s4+1))) rfl (ae (aF ?_)))))))
   exact k3 _ _ _ (sJ e1) ⟨_,_,(g1.trans g3),s9,h14,h15,rfl,h17⟩
  replace e1:=aS q20 e1
  refine aR (aU (aU (bT ?_)))
  exact k6 _ _ ⟨_,k4 _ (sJ e1),_,_,(g1.trans g3),s9,h14,h15,h16,h17⟩
 intro _ H6 i5
 obtain⟨s6,f1,Z2,V2,g2,s7,h10,h11,h12,h13⟩:=i5
 replace e:=bD f1 e
 refine ah ?_
 obtain⟨y4,q23,e⟩:=oB e
 refine bf (I:=fun tm H=>∃(s14:Int),y4= .out s14∧(∃(Z6 V6:PH),Gw Z2 V2 Z6 V6∧Sat Z6 V6 H [It.sl Sh.int v1 (Pu.st (Pu.st a0 a1 x1) a3 x2)]∧tm 0=v1∧tm 1=vi a1∧tm 10=vi s6∧tm 11=vi s14)) (fun k12=>?_) ?_
 ·refine ay (cc (fun(s12:Int) tm H=>∃(Z5 V5:PH),Gw Z2 V2 Z5 V5∧Sat Z5 V5 H [It.sl Sh.int v1 (Pu.st (Pu.st a0 a1 x1) a3 x2)]∧tm 0=v1∧tm 1=vi a1∧tm 10=vi s6∧tm 11=vi s12) (fun s12 y5 tm H11 j2 e3 k9 k10 k11=>?_) q23 ⟨_,_,Gw.refl _ _,s7,h10,h11,h12,h13⟩)
  obtain⟨Z5,V5,g5,s13,h23,h24,h25,h26⟩:=j2
  unfold P.B0.b1 at e3
  refine ah (ah (aA s13 fun n3 H13 s16 q24 d7=>aj h25 (aj h26 (gl rfl rfl (aj (v:=.bool (decide (s6≤s12))) rfl ?_)))))
  obtain⟨y6,e4,e3⟩:=oB e3
  refine dn 11 (I:=fun tm H=>DD n3 15 (List.length F.B0.r5) H∧(∃(Z7 V7:PH),Gw Z5 V5 Z7 V7∧Sat Z7 V7 H [It.sl Sh.int v1 (Pu.st (Pu.st a0 a1 x1) a3 x2)]∧tm 0=v1∧tm 1=vi a1∧tm 10=vi s6∧tm 11=vi s12∧tm 60=(.bool y6))) (fun k13=>?_) ?_
  ·rcases Bool.eq_false_or_eq_true (decide (s6≤s12)) with q25|q25
   ·replace e4:=ax q25 e4
    refine ai rfl q25 (aj h23 (ai rfl q25 (aj h26 (ai rfl q25 ?_))))
    obtain⟨x10,q26,e4⟩:=oB e4
    refine aq (v:=v1) rfl rfl (s16.curS (s:=Sh.int) 0 rfl) rfl q26 fun p7 q27=>ai rfl q25 (aO ((s16.curS 0 rfl).low pR q24) rfl (s16.curS (s:=Sh.int) 0 rfl) pR q27 q26 ?_)
    have h36:=aH (s16.curS (s:=Sh.int) 0 rfl) pR q27 q26
    refine ai rfl q25 (aj h23 (ai rfl q25 (aj h24 (ai rfl q25 ?_))))
    obtain⟨x11,q28,e4⟩:=oB e4
    refine aq (v:=v1) rfl rfl (s16.curS (s:=Sh.int) 0 rfl) rfl q28 fun p8 q29=>ai rfl q25 (aO ((s16.curS 0 rfl).low pR q24) rfl (s16.curS (s:=Sh.int) 0 rfl) pR q29 q28 ?_)
    have h37:=aH (s16.curS (s:=Sh.int) 0 rfl) pR q29 q28
    refine ai rfl q25 ?_
    obtain⟨x12,q30,e4⟩:=oB e4
    obtain⟨Z8,V8,W2,g8,u2,c5,c6,-,c8,c7⟩:=Sat.call (l1:=[]) s16
    refine bK (mc rfl (mc rfl m0)) (X.D4 nd.D4 c5 q30) fun _ H15 i7 k14=>?_
    have d8:=d7.keep k14
    obtain⟨rfl,s18⟩:=i7
    have s19:=c7 _ _ s18
    have h38:=aH (c6 0 _ Sh.int _ _ rfl) s18.v q27 q26
    have h39:=aH (c6 0 _ Sh.int _ _ rfl) s18.v q29 q28
    refine ai rfl q25 (dJ rfl (bJ (a:=.bool (!x12)) rfl q25 rfl ?_))
    obtain rfl:=oJ e4
    exact k13 _ _ _ ⟨d8.up rfl,_,_,g8,s19,h23,h24,h25,h26,rfl⟩
   replace e4:=aS q25 e4
   refine aw rfl q25 (aw rfl q25 (aw rfl q25 (aw rfl q25 (aw rfl q25 (aw rfl q25 (aw rfl q25 (aw rfl q25 (aw rfl q25 (aw rfl q25 (bI (b:=.bool false) rfl q25 rfl ?_))))))))))
   obtain rfl:=oJ e4
   exact k13 _ _ _ ⟨d7.up rfl,_,_,Gw.refl _ _,s16,h23,h24,h25,h26,rfl⟩
  intro _ H14 _ i8
  obtain⟨d9,Z7,V7,g7,s17,h31,h32,h33,h34,h35⟩:=i8
  refine aQ aK (bx h35 (fun q31=>?_) (fun q31=>?_))
  ·replace e3:=ax q31 e3
   refine ar (ay (bq (aa h34 (bz rfl rfl (aa (v:=vi (Pu.W (s12-1))) rfl (ae (aF ?_)))))))
   exact k9 _ _ _ (sJ e3) ⟨_,_,(g5.trans g7),s17,h31,h32,h33,rfl⟩
  replace e3:=aS q31 e3
  refine aR (aU (aU (bT ?_)))
  exact k12 _ _ ⟨_,k10 _ (sJ e3),_,_,(g5.trans g7),s17,h31,h32,h33,h34⟩
 intro _ H12 i9
 obtain⟨s14,f2,Z6,V6,g6,s15,h27,h28,h29,h30⟩:=i9
 replace e:=bD f2 e
 refine ah (af (aa h29 (aa h30 (cC rfl rfl (ae (aI rfl (fun q32=>?_) (fun q32=>?_)))))))
 ·replace e:=ax q32 e
  refine ah (aA s15 fun n4 H16 s20 q33 d10=>aj h27 (aj h30 (aj h27 (aj h28 (aj h27 (aj h28 ?_))))))
  obtain⟨x13,q34,e⟩:=oB e
  refine aq (v:=v1) rfl rfl (s20.curS (s:=Sh.int) 0 rfl) rfl q34 fun p9 q35=>aO ((s20.curS 0 rfl).low pR q33) rfl (s20.curS (s:=Sh.int) 0 rfl) pR q35 q34 ?_
  have h40:=aH (s20.curS (s:=Sh.int) 0 rfl) pR q35 q34
  refine aj h27 (aj h30 ?_)
  obtain⟨x14,q36,e⟩:=oB e
  refine aq (v:=v1) rfl rfl (s20.curS (s:=Sh.int) 0 rfl) rfl q36 fun p10 q37=>aO ((s20.curS 0 rfl).low pR q33) rfl (s20.curS (s:=Sh.int) 0 rfl) pR q37 q36 ?_
  have h41:=aH (s20.curS (s:=Sh.int) 0 rfl) pR q37 q36
  obtain⟨x15,q38,e⟩:=oB e
  refine aq (v:=v1) rfl rfl (s20.curS (s:=Sh.int) 0 rfl) rfl q38 fun p11 q39=>cw 0 s20 rfl Sh.G5 rfl rfl rfl q39 q38 rfl rfl fun H17 s21 k15=>?_
  have d11:=d10.keep k15
  obtain⟨x16,q40,e⟩:=oB e
  refine aq (v:=v1) rfl rfl (s21.curS (s:=Sh.int) 0 rfl) rfl q40 fun p12 q41=>cw 0 s21 rfl Sh.G5 rfl rfl rfl q41 q40 rfl rfl fun H18 s22 k16=>?_
  have d12:=d11.keep k16
  refine aQ aK (ap (P:=fun tm=>tm 11=vi s14∧True) ⟨h30,trivial⟩ ?_)
  intro _ i10
  obtain⟨h42,-⟩:=i10
  refine af (aa h42 (aa (v:=vi s14) rfl (aa (v:=.bool true) rfl (ae (aL ?_)))))
  obtain rfl:=oJ e
  exact⟨.inr rfl,_,(ar2 rfl rfl),rfl,(s22.weak (g2.trans g6) hs.zv)⟩
 replace e:=bb q32 e
 refine ar (ah (aA s15 fun n5 H19 s23 q42 d13=>aj h27 (aj h29 (aj h27 (aj h30 (aj h27 (aj h30 ?_)))))))
 obtain⟨x17,q43,e⟩:=oB e
 refine aq (v:=v1) rfl rfl (s23.curS (s:=Sh.int) 0 rfl) rfl q43 fun p13 q44=>aO ((s23.curS 0 rfl).low pR q42) rfl (s23.curS (s:=Sh.int) 0 rfl) pR q44 q43 ?_
 have h43:=aH (s23.curS (s:=Sh.int) 0 rfl) pR q44 q43
 refine aj h27 (aj h29 ?_)
 obtain⟨x18,q45,e⟩:=oB e
 refine aq (v:=v1) rfl rfl (s23.curS (s:=Sh.int) 0 rfl) rfl q45 fun p14 q46=>aO ((s23.curS 0 rfl).low pR q42) rfl (s23.curS (s:=Sh.int) 0 rfl) pR q46 q45 ?_
 have h44:=aH (s23.curS (s:=Sh.int) 0 rfl) pR q46 q45
 obtain⟨x19,q47,e⟩:=oB e
 refine aq (v:=v1) rfl rfl (s23.curS (s:=Sh.int) 0 rfl) rfl q47 fun p15 q48=>cw 0 s23 rfl Sh.G5 rfl rfl rfl q48 q47 rfl rfl fun H20 s24 k17=>?_
 have d14:=d13.keep k17
 obtain⟨x20,q49,e⟩:=oB e
 refine aq (v:=v1) rfl rfl (s24.curS (s:=Sh.int) 0 rfl) rfl q49 fun p16 q50=>cw 0 s24 rfl Sh.G5 rfl rfl rfl q50 q49 rfl rfl fun H21 s25 k18=>?_
 have d15:=d14.keep k18
 refine aQ aK (ap (P:=fun tm=>tm 0=v1∧tm 1=vi a1∧tm 10=vi s6∧tm 11=vi s14∧True) ⟨h27,h28,h29,h30,trivial⟩ ?_)
 intro _ i11
 obtain⟨h45,h46,h47,h48,-⟩:=i11
 refine af (aa h47 (az rfl rfl (aa (v:=vi (Pu.W (s6+1))) rfl (ae (af (aa h48 (bz rfl rfl (aa (v:=vi (Pu.W (s14-1))) rfl (ae (ah ?_))))))))))
 obtain⟨y7,q53,e⟩:=oB e
 refine bf (I:=fun tm H=>∃(s28:((List Int)×Int×Int)),y7= .out s28∧(∃(Z10 V10:PH),Gw Z6 V6 Z10 V10∧Sat Z10 V10 H [It.sl Sh.int v1 s28.1]∧tm 0=v1∧tm 1=vi a1∧tm 10=vi s28.2.1∧tm 11=vi s28.2.2)) (fun k22=>?_) ?_
 ·refine ay (cc (fun(s26:((List Int)×Int×Int)) tm H=>∃(Z9 V9:PH),Gw Z6 V6 Z9 V9∧Sat Z9 V9 H [It.sl Sh.int v1 s26.1]∧tm 0=v1∧tm 1=vi a1∧tm 10=vi s26.2.1∧tm 11=vi s26.2.2) (fun s26 y8 tm H23 j3 e5 k19 k20 k21=>?_) q53 ⟨_,_,Gw.refl _ _,s25,h45,h46,rfl,rfl⟩)
  obtain⟨Z9,V9,g9,s27,h49,h50,h51,h52⟩:=j3
  unfold P.B0.b2 at e5
  refine ay (ah ?_)
  obtain⟨y9,q56,e5⟩:=oB e5
  refine bf (I:=fun tm H=>∃(s32:Int),y9= .out s32∧(∃(Z12 V12:PH),Gw Z9 V9 Z12 V12∧Sat Z12 V12 H [It.sl Sh.int v1 s26.1]∧tm 0=v1∧tm 1=vi a1∧tm 10=vi s32∧tm 11=vi s26.2.2)) (fun k26=>?_) ?_
  ·refine ay (cc (fun(s30:Int) tm H=>∃(Z11 V11:PH),Gw Z9 V9 Z11 V11∧Sat Z11 V11 H [It.sl Sh.int v1 s26.1]∧tm 0=v1∧tm 1=vi a1∧tm 10=vi s30∧tm 11=vi s26.2.2) (fun s30 y10 tm H26 j4 e6 k23 k24 k25=>?_) q56 ⟨_,_,Gw.refl _ _,s27,h49,h50,h51,h52⟩)
   obtain⟨Z11,V11,g11,s31,h57,h58,h59,h60⟩:=j4
   unfold P.B0.b3 at e6
   refine ah (ah (aA s31 fun n6 H28 s34 q57 d16=>aj h59 (aj h60 (gl rfl rfl (aj (v:=.bool (decide (s30≤s26.2.2))) rfl ?_)))))
   obtain⟨y11,e7,e6⟩:=oB e6
   refine dn 10 (I:=fun tm H=>DD n6 14 (List.length F.B0.r13) H∧(∃(Z13 V13:PH),Gw Z11 V11 Z13 V13∧Sat Z13 V13 H [It.sl Sh.int v1 s26.1]∧tm 0=v1∧tm 1=vi a1∧tm 10=vi s30∧tm 11=vi s26.2.2∧tm 112=(.bool y11))) (fun k27=>?_) ?_
   ·rcases Bool.eq_false_or_eq_true (decide (s30≤s26.2.2)) with q58|q58
    ·replace e7:=ax q58 e7
     refine ai rfl q58 (aj h57 (ai rfl q58 (aj h59 (ai rfl q58 ?_))))
     obtain⟨x23,q59,e7⟩:=oB e7
     refine aq (v:=v1) rfl rfl (s34.curS (s:=Sh.int) 0 rfl) rfl q59 fun p17 q60=>ai rfl q58 (aO ((s34.curS 0 rfl).low pR q57) rfl (s34.curS (s:=Sh.int) 0 rfl) pR q60 q59 ?_)
     have h70:=aH (s34.curS (s:=Sh.int) 0 rfl) pR q60 q59
     refine ai rfl q58 (aj h57 (ai rfl q58 (aj h58 (ai rfl q58 ?_))))
     obtain⟨x24,q61,e7⟩:=oB e7
     refine aq (v:=v1) rfl rfl (s34.curS (s:=Sh.int) 0 rfl) rfl q61 fun p18 q62=>ai rfl q58 (aO ((s34.curS 0 rfl).low pR q57) rfl (s34.curS (s:=Sh.int) 0 rfl) pR q62 q61 ?_)
     have h71:=aH (s34.curS (s:=Sh.int) 0 rfl) pR q62 q61
     refine ai rfl q58 ?_
     obtain⟨x25,q63,e7⟩:=oB e7
     obtain⟨Z14,V14,W3,g14,u3,c9,c10,-,c12,c11⟩:=Sat.call (l1:=[]) s34
     refine bK (mc rfl (mc rfl m0)) (X.D4 nd.D4 c9 q63) fun _ H30 i14 k28=>?_
     have d17:=d16.keep k28
     obtain⟨rfl,s36⟩:=i14
     have s37:=c11 _ _ s36
     have h72:=aH (c10 0 _ Sh.int _ _ rfl) s36.v q60 q59
     have h73:=aH (c10 0 _ Sh.int _ _ rfl) s36.v q62 q61
     refine bJ (a:=.bool x25) rfl q58 rfl ?_
     obtain rfl:=oJ e7
     exact k27 _ _ _ ⟨d17.up rfl,_,_,g14,s37,h57,h58,h59,h60,rfl⟩
    replace e7:=aS q58 e7
    refine aw rfl q58 (aw rfl q58 (aw rfl q58 (aw rfl q58 (aw rfl q58 (aw rfl q58 (aw rfl q58 (aw rfl q58 (aw rfl q58 (bI (b:=.bool false) rfl q58 rfl ?_)))))))))
    obtain rfl:=oJ e7
    exact k27 _ _ _ ⟨d16.up rfl,_,_,Gw.refl _ _,s34,h57,h58,h59,h60,rfl⟩
   intro _ H29 _ i15
   obtain⟨d18,Z13,V13,g13,s35,h65,h66,h67,h68,h69⟩:=i15
   refine aQ aK (bx h69 (fun q64=>?_) (fun q64=>?_))
   ·replace e6:=ax q64 e6
    refine ar (ay (bq (aa h67 (az rfl rfl (aa (v:=vi (Pu.W (s30+1))) rfl (ae (aF ?_)))))))
    exact k23 _ _ _ (sJ e6) ⟨_,_,(g11.trans g13),s35,h65,h66,rfl,h68⟩
   replace e6:=aS q64 e6
   refine aR (aU (aU (bT ?_)))
   exact k26 _ _ ⟨_,k24 _ (sJ e6),_,_,(g11.trans g13),s35,h65,h66,h67,h68⟩
  intro _ H27 i16
  obtain⟨s32,f3,Z12,V12,g12,s33,h61,h62,h63,h64⟩:=i16
  replace e5:=bD f3 e5
  refine ah ?_
  obtain⟨y12,q67,e5⟩:=oB e5
  refine bf (I:=fun tm H=>∃(s40:Int),y12= .out s40∧(∃(Z16 V16:PH),Gw Z12 V12 Z16 V16∧Sat Z16 V16 H [It.sl Sh.int v1 s26.1]∧tm 0=v1∧tm 1=vi a1∧tm 10=vi s32∧tm 11=vi s40)) (fun k32=>?_) ?_
  ·refine ay (cc (fun(s38:Int) tm H=>∃(Z15 V15:PH),Gw Z12 V12 Z15 V15∧Sat Z15 V15 H [It.sl Sh.int v1 s26.1]∧tm 0=v1∧tm 1=vi a1∧tm 10=vi s32∧tm 11=vi s38) (fun s38 y13 tm H32 j5 e8 k29 k30 k31=>?_) q67 ⟨_,_,Gw.refl _ _,s33,h61,h62,h63,h64⟩)
   obtain⟨Z15,V15,g15,s39,h74,h75,h76,h77⟩:=j5
   unfold P.B0.b4 at e8
   refine ah (ah (aA s39 fun n7 H34 s42 q68 d19=>aj h76 (aj h77 (gl rfl rfl (aj (v:=.bool (decide (s32≤s38))) rfl ?_)))))
   obtain⟨y14,e9,e8⟩:=oB e8
   refine dn 11 (I:=fun tm H=>DD n7 15 (List.length F.B0.r15) H∧(∃(Z17 V17:PH),Gw Z15 V15 Z17 V17∧Sat Z17 V17 H [It.sl Sh.int v1 s26.1]∧tm 0=v1∧tm 1=vi a1∧tm 10=vi s32∧tm 11=vi s38∧tm 129=(.bool y14))) (fun k33=>?_) ?_
   ·rcases Bool.eq_false_or_eq_true (decide (s32≤s38)) with q69|q69
    ·replace e9:=ax q69 e9
     refine ai rfl q69 (aj h74 (ai rfl q69 (aj h77 (ai rfl q69 ?_))))
     obtain⟨x27,q70,e9⟩:=oB e9
     refine aq (v:=v1) rfl rfl (s42.curS (s:=Sh.int) 0 rfl) rfl q70 fun p19 q71=>ai rfl q69 (aO ((s42.curS 0 rfl).low pR q68) rfl (s42.curS (s:=Sh.int) 0 rfl) pR q71 q70 ?_)
     have h87:=aH (s42.curS (s:=Sh.int) 0 rfl) pR q71 q70
     refine ai rfl q69 (aj h74 (ai rfl q69 (aj h75 (ai rfl q69 ?_))))
     obtain⟨x28,q72,e9⟩:=oB e9
     refine aq (v:=v1) rfl rfl (s42.curS (s:=Sh.int) 0 rfl) rfl q72 fun p20 q73=>ai rfl q69 (aO ((s42.curS 0 rfl).low pR q68) rfl (s42.curS (s:=Sh.int) 0 rfl) pR q73 q72 ?_)
     have h88:=aH (s42.curS (s:=Sh.int) 0 rfl) pR q73 q72
     refine ai rfl q69 ?_
     obtain⟨x29,q74,e9⟩:=oB e9
     obtain⟨Z18,V18,W4,g18,u4,c13,c14,-,c16,c15⟩:=Sat.call (l1:=[]) s42
     refine bK (mc rfl (mc rfl m0)) (X.D4 nd.D4 c13 q74) fun _ H36 i18 k34=>?_
     have d20:=d19.keep k34
     obtain⟨rfl,s44⟩:=i18
     have s45:=c15 _ _ s44
     have h89:=aH (c14 0 _ Sh.int _ _ rfl) s44.v q71 q70
     have h90:=aH (c14 0 _ Sh.int _ _ rfl) s44.v q73 q72
     refine ai rfl q69 (dJ rfl (bJ (a:=.bool (!x29)) rfl q69 rfl ?_))
     obtain rfl:=oJ e9
     exact k33 _ _ _ ⟨d20.up rfl,_,_,g18,s45,h74,h75,h76,h77,rfl⟩
    replace e9:=aS q69 e9
    refine aw rfl q69 (aw rfl q69 (aw rfl q69 (aw rfl q69 (aw rfl q69 (aw rfl q69 (aw rfl q69 (aw rfl q69 (aw rfl q69 (aw rfl q69 (bI (b:=.bool false) rfl q69 rfl ?_))))))))))
    obtain rfl:=oJ e9
    exact k33 _ _ _ ⟨d19.up rfl,_,_,Gw.refl _ _,s42,h74,h75,h76,h77,rfl⟩
   intro _ H35 _ i19
   obtain⟨d21,Z17,V17,g17,s43,h82,h83,h84,h85,h86⟩:=i19
   refine aQ aK (bx h86 (fun q75=>?_) (fun q75=>?_))
   ·replace e8:=ax q75 e8
    refine ar (ay (bq (aa h85 (bz rfl rfl (aa (v:=vi (Pu.W (s38-1))) rfl (ae (aF ?_)))))))
    exact k29 _ _ _ (sJ e8) ⟨_,_,(g15.trans g17),s43,h82,h83,h84,rfl⟩
   replace e8:=aS q75 e8
   refine aR (aU (aU (bT ?_)))
   exact k32 _ _ ⟨_,k30 _ (sJ e8),_,_,(g15.trans g17),s43,h82,h83,h84,h85⟩
  intro _ H33 i20
  obtain⟨s40,f4,Z16,V16,g16,s41,h78,h79,h80,h81⟩:=i20
  replace e5:=bD f4 e5
  refine ah (af (aa h80 (aa h81 (cC rfl rfl (ae (aI rfl (fun q76=>?_) (fun q76=>?_)))))))
  ·replace e5:=ax q76 e5
   refine aR (aU (kq rfl (aU (bT ?_))))
   exact k22 _ _ ⟨_,k20 _ (sJ e5),_,_,(g9.trans (g12.trans g16)),s41,h78,h79,h80,h81⟩
  replace e5:=bb q76 e5
  refine ar (ah (aA s41 fun n8 H37 s46 q77 d22=>aj h78 (aj h80 (aj h78 (aj h81 (aj h78 (aj h81 ?_)))))))
  obtain⟨x30,q78,e5⟩:=oB e5
  refine aq (v:=v1) rfl rfl (s46.curS (s:=Sh.int) 0 rfl) rfl q78 fun p21 q79=>aO ((s46.curS 0 rfl).low pR q77) rfl (s46.curS (s:=Sh.int) 0 rfl) pR q79 q78 ?_
  have h91:=aH (s46.curS (s:=Sh.int) 0 rfl) pR q79 q78
  refine aj h78 (aj h80 ?_)
  obtain⟨x31,q80,e5⟩:=oB e5
  refine aq (v:=v1) rfl rfl (s46.curS (s:=Sh.int) 0 rfl) rfl q80 fun p22 q81=>aO ((s46.curS 0 rfl).low pR q77) rfl (s46.curS (s:=Sh.int) 0 rfl) pR q81 q80 ?_
  have h92:=aH (s46.curS (s:=Sh.int) 0 rfl) pR q81 q80
  obtain⟨x32,q82,e5⟩:=oB e5
  refine aq (v:=v1) rfl rfl (s46.curS (s:=Sh.int) 0 rfl) rfl q82 fun p23 q83=>cw 0 s46 rfl Sh.G5 rfl rfl rfl q83 q82 rfl rfl fun H38 s47 k35=>?_
  have d23:=d22.keep k35
  obtain⟨x33,q84,e5⟩:=oB e5
  refine aq (v:=v1) rfl rfl (s47.curS (s:=Sh.int) 0 rfl) rfl q84 fun p24 q85=>cw 0 s47 rfl Sh.G5 rfl rfl rfl q85 q84 rfl rfl fun H39 s48 k36=>?_
  have d24:=d23.keep k36
  refine aQ aK (ap (P:=fun tm=>tm 0=v1∧tm 1=vi a1∧tm 10=vi s32∧tm 11=vi s40∧True) ⟨h78,h79,h80,h81,trivial⟩ ?_)
  intro _ i21
  obtain⟨h93,h94,h95,h96,-⟩:=i21
  refine af (aa h95 (az rfl rfl (aa (v:=vi (Pu.W (s32+1))) rfl (ae (bq (aa h96 (bz rfl rfl (aa (v:=vi (Pu.W (s40-1))) rfl (ae (aF ?_))))))))))
  exact k19 _ _ _ (sJ e5) ⟨_,_,(g9.trans (g12.trans g16)),s48,h93,h94,rfl,rfl⟩
 intro _ H24 i22
 obtain⟨s28,f5,Z10,V10,g10,s29,h53,h54,h55,h56⟩:=i22
 replace e:=bD f5 e
 refine ah (aA s29 fun n9 H40 s49 q86 d25=>aj h53 (aj h56 (aj h53 (aj h54 (aj h53 (aj h54 ?_))))))
 obtain⟨x34,q87,e⟩:=oB e
 refine aq (v:=v1) rfl rfl (s49.curS (s:=Sh.int) 0 rfl) rfl q87 fun p25 q88=>aO ((s49.curS 0 rfl).low pR q86) rfl (s49.curS (s:=Sh.int) 0 rfl) pR q88 q87 ?_
 have h97:=aH (s49.curS (s:=Sh.int) 0 rfl) pR q88 q87
 refine aj h53 (aj h56 ?_)
 obtain⟨x35,q89,e⟩:=oB e
 refine aq (v:=v1) rfl rfl (s49.curS (s:=Sh.int) 0 rfl) rfl q89 fun p26 q90=>aO ((s49.curS 0 rfl).low pR q86) rfl (s49.curS (s:=Sh.int) 0 rfl) pR q90 q89 ?_
 have h98:=aH (s49.curS (s:=Sh.int) 0 rfl) pR q90 q89
 obtain⟨x36,q91,e⟩:=oB e
 refine aq (v:=v1) rfl rfl (s49.curS (s:=Sh.int) 0 rfl) rfl q91 fun p27 q92=>cw 0 s49 rfl Sh.G5 rfl rfl rfl q92 q91 rfl rfl fun H41 s50 k37=>?_
 have d26:=d25.keep k37
 obtain⟨x37,q93,e⟩:=oB e
 refine aq (v:=v1) rfl rfl (s50.curS (s:=Sh.int) 0 rfl) rfl q93 fun p28 q94=>cw 0 s50 rfl Sh.G5 rfl rfl rfl q94 q93 rfl rfl fun H42 s51 k38=>?_
 have d27:=d26.keep k38
 refine aQ aK (ap (P:=fun tm=>tm 11=vi s28.2.2∧True) ⟨h56,trivial⟩ ?_)
 intro _ i23
 obtain⟨h99,-⟩:=i23
 refine af (aa h99 (aa (v:=vi s28.2.2) rfl (aa (v:=.bool false) rfl (ae (aL ?_)))))
 obtain rfl:=oJ e
 exact⟨.inr rfl,_,(ar2 rfl rfl),rfl,(s51.weak (g2.trans (g6.trans g10)) hs.zv)⟩
structure Nd.B1 (T:FuncId→Option AFunc):Prop where
 own_slices_pdqsortOrdered_int:Has T I.B1 F.B1
 C1:Nd.C1 T
 C2:Nd.C2 T
 C0:Nd.C0 T
 B7:Nd.B7 T
 C8:Nd.C8 T
 A7:Nd.A7 T
 D4:Nd.D4 T
 B2:Nd.B2 T
 B0:Nd.B0 T
theorem X.slices_pdqsortOrdered_int_rec {T:FuncId→Option AFunc}(nd:Nd.B1 T):∀φ:Nat,(∀{Z V:PH} {H:Hp} {v1:Value} {a0:(List Int)} {a1:Int} {a2:Int} {a3:Int} (_:Sat Z V H [It.sl Sh.int v1 a0]) {r:(List Int)} (_:P.B1 φ a0 a1 a2 a3=some r),G T I.B1 [v1,vi a1,vi a2,vi a3] H (fun rv H'=>rv=undef∧Sat Z V H' [It.sl Sh.int v1 r])):=by
 intro φ
 induction φ with
 | zero=>
   intro Z V H v1 a0 a1 a2 a3 hs r e
   rw [P.B1] at e;cases e
 | succ φ ih=>
   intro Z V H v1 a0 a1 a2 a3 hs r e
   rw [P.B1] at e
   refine bB nd.own_slices_pdqsortOrdered_int (af (aa (v:=.bool true) rfl (ae (af (aa (v:=.bool true) rfl (ae ?_))))))
   obtain⟨y1,q3,e⟩:=oB e
   refine bf (I:=fun tm H=>∃(s3:((List Int)×Int×Int×Int×Bool×Bool)),y1= .out s3∧(∃(Z2 V2:PH),Gw Z V Z2 V2∧Sat Z2 V2 H [It.sl Sh.int v1 s3.1]∧tm 0=v1∧tm 1=vi s3.2.1∧tm 2=vi s3.2.2.1∧tm 3=vi s3.2.2.2.1∧tm 8=(.bool s3.2.2.2.2.1)∧tm 9=(.bool s3.2.2.2.2.2))) (fun k4=>?_) ?_
   ·refine ay (cc (fun(s1:((List Int)×Int×Int×Int×Bool×Bool)) tm H=>∃(Z1 V1:PH),Gw Z V Z1 V1∧Sat Z1 V1 H [It.sl Sh.int v1 s1.1]∧tm 0=v1∧tm 1=vi s1.2.1∧tm 2=vi s1.2.2.1∧tm 3=vi s1.2.2.2.1∧tm 8=(.bool s1.2.2.2.2.1)∧tm 9=(.bool s1.2.2.2.2.2)) (fun s1 y2 tm H2 j1 e1 k1 k2 k3=>?_) q3 ⟨_,_,Gw.refl _ _,hs,rfl,rfl,rfl,rfl,rfl,rfl⟩)
    obtain⟨Z1,V1,g1,s2,h1,h2,h3,h4,h5,h6⟩:=j1
    unfold P.B1.b0 at e1
    refine ay (af (aa h3 (aa h2 (bz rfl rfl (aa (v:=vi (Pu.W (s1.2.2.1-s1.2.1))) rfl (ae (ah (af (aa (v:=vi (Pu.W (s1.2.2.1-s1.2.1))) rfl (ki rfl rfl (ae (aI rfl (fun q4=>?_) (fun q4=>?_)))))))))))))
    ·replace e1:=ax q4 e1
     refine af (aa h1 (aa h2 (aa h3 ?_)))
     obtain⟨x2,q5,e1⟩:=oB e1
     obtain⟨Z3,V3,W1,g3,u1,c1,c2,-,c4,c3⟩:=Sat.call (l1:=[It.sl Sh.int v1 s1.1]) (l2:=[]) s2
     refine au (mc rfl (mc rfl (mc rfl m0))) (X.C1 nd.C1 c1 q5) fun _ H4 i2=>?_
     obtain⟨rfl,s5⟩:=i2
     have s6:=c3 _ _ s5
     refine ae (ap (P:=fun tm=>True) trivial ?_)
     intro _ i3
     refine aL ?_
     have e2:=ci (k3 _ (sJ e1)) e
     obtain rfl:=oJ e2
     exact⟨.inr rfl,_,rfl,rfl,(s6.weak (g1.trans g3) hs.zv)⟩
    replace e1:=bb q4 e1
    refine ar (ah (af (aa h4 (co rfl rfl (ae (aI rfl (fun q6=>?_) (fun q6=>?_)))))))
    ·replace e1:=ax q6 e1
     refine af (aa h1 (aa h2 (aa h3 ?_)))
     obtain⟨x3,q7,e1⟩:=oB e1
     obtain⟨Z4,V4,W2,g4,u2,c5,c6,-,c8,c7⟩:=Sat.call (l1:=[It.sl Sh.int v1 s1.1]) (l2:=[]) s2
     refine au (mc rfl (mc rfl (mc rfl m0))) (X.C2 nd.C2 c5 q7) fun _ H5 i4=>?_
     obtain⟨rfl,s7⟩:=i4
     have s8:=c7 _ _ s7
     refine ae (ap (P:=fun tm=>True) trivial ?_)
     intro _ i5
     refine aL ?_
     have e3:=ci (k3 _ (sJ e1)) e
     obtain rfl:=oJ e3
     exact⟨.inr rfl,_,rfl,rfl,(s8.weak (g1.trans g4) hs.zv)⟩
    replace e1:=bb q6 e1
    refine ar (ah (af (aa h5 (cy rfl (ae (ap (P:=fun tm=>tm 0=v1∧tm 1=vi s1.2.1∧tm 2=vi s1.2.2.1∧tm 3=vi s1.2.2.2.1∧tm 8=(.bool s1.2.2.2.2.1)∧tm 9=(.bool s1.2.2.2.2.2)∧tm 10=(vi (Pu.W (s1.2.2.1-s1.2.1)))∧tm 35=(.bool (!s1.2.2.2.2.1))∧True) ⟨h1,h2,h3,h4,h5,h6,rfl,rfl,trivial⟩ ?_))))))
    intro _ i6
    obtain⟨h13,h14,h15,h16,h17,h18,h19,h20,-⟩:=i6
    obtain⟨y3,e4,e1⟩:=oB e1
    refine bf (I:=fun tm H=>∃(Z5 V5:PH),Gw Z1 V1 Z5 V5∧Sat Z5 V5 H [It.sl Sh.int v1 y3.1]∧tm 0=v1∧tm 1=vi s1.2.1∧tm 2=vi s1.2.2.1∧tm 3=vi y3.2∧tm 8=(.bool s1.2.2.2.2.1)∧tm 9=(.bool s1.2.2.2.2.2)∧tm 10=(vi (Pu.W (s1.2.2.1-s1.2.1)))) (fun k5=>?_) ?_
    ·refine bx h20 (fun q8=>?_) (fun q8=>?_)
     ·replace e4:=ax q8 e4
      refine af (aa h13 (aa h14 (aa h15 ?_)))
      obtain⟨x4,q9,e4⟩:=oB e4
      obtain⟨Z6,V6,W3,g6,u3,c9,c10,-,c12,c11⟩:=Sat.call (l1:=[It.sl Sh.int v1 s1.1]) (l2:=[]) s2
      refine au (mc rfl (mc rfl (mc rfl m0))) (X.C0 nd.C0 c9 q9) fun _ H7 i7=>?_
      obtain⟨rfl,s10⟩:=i7
      have s11:=c11 _ _ s10
      refine ae (bq (aa h16 (bz rfl rfl (aa (v:=vi (Pu.W (s1.2.2.2.1-1))) rfl (ae ?_)))))
      obtain rfl:=oJ e4
      exact k5 _ _ ⟨_,_,g6,s11,h13,h14,h15,rfl,h17,h18,h19⟩
     replace e4:=aS q8 e4
     refine ar ?_
     obtain rfl:=oJ e4
     exact k5 _ _ ⟨_,_,Gw.refl _ _,s2,h13,h14,h15,h16,h17,h18,h19⟩
    intro _ H6 i8
    obtain⟨Z5,V5,g5,s9,h21,h22,h23,h24,h25,h26,h27⟩:=i8
    refine af (aa h21 (aa h22 (aa h23 ?_)))
    obtain⟨x5,q10,e1⟩:=oB e1
    obtain⟨Z7,V7,W4,g7,u4,c13,c14,-,c16,c15⟩:=Sat.call (l1:=[]) s9
    refine au (mc rfl (mc rfl (mc rfl m0))) (X.B7 nd.B7 c13 (c14 0 _ Sh.int _ _ rfl) q10) fun _ H8 i9=>?_
    obtain⟨rfl,s12⟩:=i9
    have s13:=c15 _ _ s12
    refine aa (v:=.tuple #[vi x5.1,vi x5.2]) rfl (bH rfl rfl (bH rfl rfl (aa (v:=vi x5.1) rfl (aa (v:=vi x5.2) rfl (ae (ah (af (aa (v:=vi x5.2) rfl (co rfl rfl (ae (ap (P:=fun tm=>tm 0=v1∧tm 1=vi s1.2.1∧tm 2=vi s1.2.2.1∧tm 3=vi y3.2∧tm 8=(.bool s1.2.2.2.2.1)∧tm 9=(.bool s1.2.2.2.2.2)∧tm 10=(vi (Pu.W (s1.2.2.1-s1.2.1)))∧tm 11=vi x5.1∧tm 12=vi x5.2∧tm 50=(.bool (decide (x5.2=2)))∧True) ⟨h21,h22,h23,h24,h25,h26,h27,rfl,rfl,rfl,trivial⟩ ?_)))))))))))
    intro _ i10
    obtain⟨h28,h29,h30,h31,h32,h33,h34,h35,h36,h37,-⟩:=i10
    obtain⟨y4,e5,e1⟩:=oB e1
    refine bf (I:=fun tm H=>∃(Z8 V8:PH),Gw Z7 V7 Z8 V8∧Sat Z8 V8 H [It.sl Sh.int v1 y4.1]∧tm 0=v1∧tm 1=vi s1.2.1∧tm 2=vi s1.2.2.1∧tm 3=vi y3.2∧tm 8=(.bool s1.2.2.2.2.1)∧tm 9=(.bool s1.2.2.2.2.2)∧tm 10=(vi (Pu.W (s1.2.2.1-s1.2.1)))∧tm 11=vi y4.2.1∧tm 12=vi y4.2.2) (fun k6=>?_) ?_
    ·refine aI h37 (fun q11=>?_) (fun q11=>?_)
     ·replace e5:=ax q11 e5
      refine af (aa h28 (aa h29 (aa h30 ?_)))
      obtain⟨x6,q12,e5⟩:=oB e5
      obtain⟨Z9,V9,W5,g9,u5,c17,c18,-,c20,c19⟩:=Sat.call (l1:=[It.sl Sh.int v1 y3.1]) (l2:=[]) s13
      refine au (mc rfl (mc rfl (mc rfl m0))) (X.C8 nd.C8 c17 q12) fun _ H10 i11=>?_
      obtain⟨rfl,s15⟩:=i11
      have s16:=c19 _ _ s15
      refine ae (af (aa h30 (bz rfl rfl (aa h35 (aa h29 (bz rfl rfl (bz rfl rfl (aa (v:=vi (Pu.W ((Pu.W (s1.2.2.1-1))-(Pu.W (x5.1-s1.2.1))))) rfl (ae (ap (P:=fun tm=>tm 0=v1∧tm 1=vi s1.2.1∧tm 2=vi s1.2.2.1∧tm 3=vi y3.2∧tm 8=(.bool s1.2.2.2.2.1)∧tm 9=(.bool s1.2.2.2.2.2)∧tm 10=(vi (Pu.W (s1.2.2.1-s1.2.1)))∧tm 11=(vi (Pu.W ((Pu.W (s1.2.2.1-1))-(Pu.W (x5.1-s1.2.1)))))∧True) ⟨h28,h29,h30,h31,h32,h33,h34,rfl,trivial⟩ ?_))))))))))
      intro _ i12
      obtain⟨h47,h48,h49,h50,h51,h52,h53,h54,-⟩:=i12
      refine bq (aa (v:=vi 1) rfl (ae ?_))
      obtain rfl:=oJ e5
      exact k6 _ _ ⟨_,_,g9,s16,h47,h48,h49,h50,h51,h52,h53,h54,rfl⟩
     replace e5:=bb q11 e5
     refine ar ?_
     obtain rfl:=oJ e5
     exact k6 _ _ ⟨_,_,Gw.refl _ _,s13,h28,h29,h30,h31,h32,h33,h34,h35,h36⟩
    intro _ H9 i13
    obtain⟨Z8,V8,g8,s14,h38,h39,h40,h41,h42,h43,h44,h45,h46⟩:=i13
    refine ah (af (aa h42 (aa (v:=.bool s1.2.2.2.2.1) rfl (cv 2 (I:=fun tm H=>tm 64= .bool (s1.2.2.2.2.1&&s1.2.2.2.2.2)∧(∃(Z10 V10:PH),Gw Z8 V8 Z10 V10∧Sat Z10 V10 H [It.sl Sh.int v1 y4.1]∧tm 0=v1∧tm 1=vi s1.2.1∧tm 2=vi s1.2.2.1∧tm 3=vi y3.2∧tm 8=(.bool s1.2.2.2.2.1)∧tm 9=(.bool s1.2.2.2.2.2)∧tm 10=(vi (Pu.W (s1.2.2.1-s1.2.1)))∧tm 11=vi y4.2.1∧tm 12=vi y4.2.2)) (fun k7=>?_) ?_))))
    ·rcases Bool.eq_false_or_eq_true s1.2.2.2.2.1 with q13|q13
     ·refine aC rfl q13 (aa h43 (aY (a:=.bool s1.2.2.2.2.2) rfl q13 rfl ?_))
      exact k7 _ _ ⟨gf rfl (by first|(rw [q13];first|done|rfl)|simp [q13]),_,_,Gw.refl _ _,s14,h38,h39,h40,h41,h42,h43,h44,h45,h46⟩
     refine aE rfl q13 (aX (b:=.bool false) rfl q13 rfl ?_)
     exact k7 _ _ ⟨gf rfl (by first|(rw [q13];first|done|rfl)|simp [q13]),_,_,Gw.refl _ _,s14,h38,h39,h40,h41,h42,h43,h44,h45,h46⟩
    intro _ H11 i14
    obtain⟨h64,Z10,V10,g10,s17,h55,h56,h57,h58,h59,h60,h61,h62,h63⟩:=i14
    refine aa h64 (cv 3 (I:=fun tm H=>tm 68= .bool ((s1.2.2.2.2.1&&s1.2.2.2.2.2)&&(decide (y4.2.2=1)))∧(∃(Z11 V11:PH),Gw Z10 V10 Z11 V11∧Sat Z11 V11 H [It.sl Sh.int v1 y4.1]∧tm 0=v1∧tm 1=vi s1.2.1∧tm 2=vi s1.2.2.1∧tm 3=vi y3.2∧tm 8=(.bool s1.2.2.2.2.1)∧tm 9=(.bool s1.2.2.2.2.2)∧tm 10=(vi (Pu.W (s1.2.2.1-s1.2.1)))∧tm 11=vi y4.2.1)) (fun k8=>?_) ?_)
    ·rcases Bool.eq_false_or_eq_true (s1.2.2.2.2.1&&s1.2.2.2.2.2) with q14|q14
     ·refine aC rfl q14 (aa h63 (aC rfl q14 (co rfl rfl (aY (a:=.bool (decide (y4.2.2=1))) rfl q14 rfl ?_))))
      exact k8 _ _ ⟨gf rfl (by first|(rw [q14];first|done|rfl)|simp [q14]),_,_,Gw.refl _ _,s17,h55,h56,h57,h58,h59,h60,h61,h62⟩
     refine aE rfl q14 (aE rfl q14 (aX (b:=.bool false) rfl q14 rfl ?_))
     exact k8 _ _ ⟨gf rfl (by first|(rw [q14];first|done|rfl)|simp [q14]),_,_,Gw.refl _ _,s17,h55,h56,h57,h58,h59,h60,h61,h62⟩
    intro _ H12 i15
    obtain⟨h73,Z11,V11,g11,s18,h65,h66,h67,h68,h69,h70,h71,h72⟩:=i15
    refine ae ?_
    obtain⟨y5,e6,e1⟩:=oB e1
    refine bf (I:=fun tm H=>∃(y6:(List Int)),y5= .out y6∧(∃(Z12 V12:PH),Gw Z11 V11 Z12 V12∧Sat Z12 V12 H [It.sl Sh.int v1 y6]∧tm 0=v1∧tm 1=vi s1.2.1∧tm 2=vi s1.2.2.1∧tm 3=vi y3.2∧tm 8=(.bool s1.2.2.2.2.1)∧tm 9=(.bool s1.2.2.2.2.2)∧tm 10=(vi (Pu.W (s1.2.2.1-s1.2.1)))∧tm 11=vi y4.2.1)) (fun k9=>?_) ?_
    ·refine bx h73 (fun q15=>?_) (fun q15=>?_)
     ·replace e6:=ax q15 e6
      refine af (aa h65 (aa h66 (aa h67 ?_)))
      obtain⟨x7,q16,e6⟩:=oB e6
      obtain⟨Z13,V13,W6,g13,u6,c21,c22,-,c24,c23⟩:=Sat.call (l1:=[It.sl Sh.int v1 y4.1]) (l2:=[]) s18
      refine au (mc rfl (mc rfl (mc rfl m0))) (X.A7 nd.A7 c21 q16) fun _ H14 i16=>?_
      obtain⟨rfl,s20⟩:=i16
      have s21:=c23 _ _ s20
      refine ae (bx rfl (fun q17=>?_) (fun q17=>?_))
      ·replace e6:=ax q17 e6
       refine aL ?_
       have e7:=ci (sJ e6) e1
       have e8:=ci (k3 _ (sJ e7)) e
       obtain rfl:=oJ e8
       exact⟨.inr rfl,_,rfl,rfl,(s21.weak (g1.trans (g5.trans (g7.trans (g8.trans (g10.trans (g11.trans g13)))))) hs.zv)⟩
      replace e6:=aS q17 e6
      refine ar ?_
      exact k9 _ _ ⟨_,(sJ e6),_,_,g13,s21,h65,h66,h67,h68,h69,h70,h71,h72⟩
     replace e6:=aS q15 e6
     refine ar ?_
     exact k9 _ _ ⟨_,(sJ e6),_,_,Gw.refl _ _,s18,h65,h66,h67,h68,h69,h70,h71,h72⟩
    intro _ H13 i17
    obtain⟨y6,f1,Z12,V12,g12,s19,h74,h75,h76,h77,h78,h79,h80,h81⟩:=i17
    replace e1:=bD f1 e1
    refine ah (ah (aA s19 fun n1 H15 s22 q18 d1=>aj h75 (jB rfl rfl (aj (v:=.bool (decide (0<s1.2.1))) rfl ?_))))
    obtain⟨y7,e9,e1⟩:=oB e1
    refine dn 12 (I:=fun tm H=>DD n1 15 (List.length F.B1.r17) H∧(∃(Z14 V14:PH),Gw Z12 V12 Z14 V14∧Sat Z14 V14 H [It.sl Sh.int v1 y6]∧tm 0=v1∧tm 1=vi s1.2.1∧tm 2=vi s1.2.2.1∧tm 3=vi y3.2∧tm 8=(.bool s1.2.2.2.2.1)∧tm 9=(.bool s1.2.2.2.2.2)∧tm 10=(vi (Pu.W (s1.2.2.1-s1.2.1)))∧tm 11=vi y4.2.1∧tm 87=(.bool y7))) (fun k10=>?_) ?_
    ·rcases Bool.eq_false_or_eq_true (decide (0<s1.2.1)) with q19|q19
     ·replace e9:=ax q19 e9
      refine ai rfl q19 (aj h74 (ai rfl q19 (aj h75 (ai rfl q19 (df rfl rfl (ai rfl q19 ?_))))))
      obtain⟨x8,q20,e9⟩:=oB e9
      refine aq (v:=v1) rfl rfl (s22.curS (s:=Sh.int) 0 rfl) rfl q20 fun p1 q21=>ai rfl q19 (aO ((s22.curS 0 rfl).low pR q18) rfl (s22.curS (s:=Sh.int) 0 rfl) pR q21 q20 ?_)
      have h91:=aH (s22.curS (s:=Sh.int) 0 rfl) pR q21 q20
      refine ai rfl q19 (aj h74 (ai rfl q19 (aj h81 (ai rfl q19 ?_))))
      obtain⟨x9,q22,e9⟩:=oB e9
      refine aq (v:=v1) rfl rfl (s22.curS (s:=Sh.int) 0 rfl) rfl q22 fun p2 q23=>ai rfl q19 (aO ((s22.curS 0 rfl).low pR q18) rfl (s22.curS (s:=Sh.int) 0 rfl) pR q23 q22 ?_)
      have h92:=aH (s22.curS (s:=Sh.int) 0 rfl) pR q23 q22
      refine ai rfl q19 ?_
      obtain⟨x10,q24,e9⟩:=oB e9
      obtain⟨Z15,V15,W7,g15,u7,c25,c26,-,c28,c27⟩:=Sat.call (l1:=[]) s22
      refine bK (mc rfl (mc rfl m0)) (X.D4 nd.D4 c25 q24) fun _ H17 i18 k11=>?_
      have d2:=d1.keep k11
      obtain⟨rfl,s24⟩:=i18
      have s25:=c27 _ _ s24
      have h93:=aH (c26 0 _ Sh.int _ _ rfl) s24.v q21 q20
      have h94:=aH (c26 0 _ Sh.int _ _ rfl) s24.v q23 q22
      refine ai rfl q19 (dJ rfl (bJ (a:=.bool (!x10)) rfl q19 rfl ?_))
      obtain rfl:=oJ e9
      exact k10 _ _ _ ⟨d2.up rfl,_,_,g15,s25,h74,h75,h76,h77,h78,h79,h80,h81,rfl⟩
     replace e9:=aS q19 e9
     refine aw rfl q19 (aw rfl q19 (aw rfl q19 (aw rfl q19 (aw rfl q19 (aw rfl q19 (aw rfl q19 (aw rfl q19 (aw rfl q19 (aw rfl q19 (aw rfl q19 (bI (b:=.bool false) rfl q19 rfl ?_)))))))))))
     obtain rfl:=oJ e9
     exact k10 _ _ _ ⟨d1.up rfl,_,_,Gw.refl _ _,s22,h74,h75,h76,h77,h78,h79,h80,h81,rfl⟩
    intro _ H16 _ i19
    obtain⟨d3,Z14,V14,g14,s23,h82,h83,h84,h85,h86,h87,h88,h89,h90⟩:=i19
    refine aQ aK (bx h90 (fun q25=>?_) (fun q25=>?_))
    ·replace e1:=ax q25 e1
     refine af (aa h82 (aa h83 (aa h84 (aa h89 ?_))))
     obtain⟨x11,q26,e1⟩:=oB e1
     obtain⟨Z16,V16,W8,g16,u8,c29,c30,-,c32,c31⟩:=Sat.call (l1:=[It.sl Sh.int v1 y6]) (l2:=[]) s23
     refine au (mc rfl (mc rfl (mc rfl (mc rfl m0)))) (X.B2 nd.B2 c29 q26) fun _ H18 i20=>?_
     obtain⟨rfl,s26⟩:=i20
     have s27:=c31 _ _ s26
     refine aa (v:=vi x11.2) rfl (ae (af (aa (v:=vi x11.2) rfl (aa (v:=vi x11.2) rfl (ae (aR (aU (bT ?_))))))))
     exact k1 _ _ _ (sJ e1) ⟨_,_,(g1.trans (g5.trans (g7.trans (g8.trans (g10.trans (g11.trans (g12.trans (g14.trans g16)))))))),s27,h82,rfl,h84,h85,h86,h87⟩
    replace e1:=aS q25 e1
    refine ar (af (aa h82 (aa h83 (aa h84 (aa h89 ?_)))))
    obtain⟨x12,q27,e1⟩:=oB e1
    obtain⟨Z17,V17,W9,g17,u9,c33,c34,-,c36,c35⟩:=Sat.call (l1:=[It.sl Sh.int v1 y6]) (l2:=[]) s23
    refine au (mc rfl (mc rfl (mc rfl (mc rfl m0)))) (X.B0 nd.B0 c33 q27) fun _ H19 i21=>?_
    obtain⟨rfl,s28⟩:=i21
    have s29:=c35 _ _ s28
    refine aa (v:=.tuple #[vi x12.2.1,(.bool x12.2.2)]) rfl (bH rfl rfl (bH rfl rfl (aa (v:=vi x12.2.1) rfl (aa (v:=.bool x12.2.2) rfl (ae (ap (P:=fun tm=>tm 0=v1∧tm 1=vi s1.2.1∧tm 2=vi s1.2.2.1∧tm 3=vi y3.2∧tm 10=(vi (Pu.W (s1.2.2.1-s1.2.1)))∧tm 14=vi x12.2.1∧tm 15=(.bool x12.2.2)∧True) ⟨h82,h83,h84,h85,h88,rfl,rfl,trivial⟩ ?_))))))
    intro _ i22
    obtain⟨h95,h96,h97,h98,h99,h100,h101,-⟩:=i22
    refine af (aa h101 (aa (v:=.bool x12.2.2) rfl (ae (af (aa h100 (aa h96 (bz rfl rfl (aa h97 (aa h100 (bz rfl rfl (aa (v:=vi (Pu.W (x12.2.1-s1.2.1))) rfl (aa (v:=vi (Pu.W (s1.2.2.1-x12.2.1))) rfl (ae (ap (P:=fun tm=>tm 0=v1∧tm 1=vi s1.2.1∧tm 2=vi s1.2.2.1∧tm 3=vi y3.2∧tm 9=(.bool x12.2.2)∧tm 10=(vi (Pu.W (s1.2.2.1-s1.2.1)))∧tm 14=vi x12.2.1∧tm 16=(vi (Pu.W (x12.2.1-s1.2.1)))∧tm 17=(vi (Pu.W (s1.2.2.1-x12.2.1)))∧True) ⟨h95,h96,h97,h98,rfl,h99,h100,rfl,rfl,trivial⟩ ?_))))))))))))))
    intro _ i23
    obtain⟨h102,h103,h104,h105,h106,h107,h108,h109,h110,-⟩:=i23
    refine af (aa h107 ?_)
    obtain⟨x13,q28,e1⟩:=oB e1
    refine fU rfl rfl q28 (aa (v:=vi x13) rfl (ae (af (aa h109 (aa h110 (ao rfl rfl (ae ?_)))))))
    obtain⟨y8,e10,e1⟩:=oB e1
    refine bf (I:=fun tm H=>∃(Z18 V18:PH),Gw Z17 V17 Z18 V18∧Sat Z18 V18 H [It.sl Sh.int v1 y8.1]∧tm 0=v1∧tm 1=vi y8.2.1∧tm 2=vi y8.2.2.1∧tm 3=vi y3.2∧tm 8=(.bool y8.2.2.2)∧tm 9=(.bool x12.2.2)) (fun k12=>?_) ?_
    ·refine aI rfl (fun q29=>?_) (fun q29=>?_)
     ·replace e10:=ax q29 e10
      refine af (aa h109 (aa (v:=vi x13) rfl (cd rfl rfl (aa (v:=.bool (decide (x13≤(Pu.W (x12.2.1-s1.2.1))))) rfl (ae (ap (P:=fun tm=>tm 0=v1∧tm 1=vi s1.2.1∧tm 2=vi s1.2.2.1∧tm 3=vi y3.2∧tm 8=(.bool (decide (x13≤(Pu.W (x12.2.1-s1.2.1)))))∧tm 9=(.bool x12.2.2)∧tm 14=vi x12.2.1∧True) ⟨h102,h103,h104,h105,rfl,h106,h108,trivial⟩ ?_))))))
      intro _ i24
      obtain⟨h117,h118,h119,h120,h121,h122,h123,-⟩:=i24
      refine af (aa h117 (aa h118 (aa h123 (aa h120 ?_))))
      obtain⟨x14,q30,e10⟩:=oB e10
      obtain⟨Z19,V19,W10,g19,u10,c37,c38,-,c40,c39⟩:=Sat.call (l1:=[It.sl Sh.int v1 x12.1]) (l2:=[]) s29
      refine au (mc rfl (mc rfl (mc rfl (mc rfl m0)))) (ih c37 q30) fun _ H21 i25=>?_
      obtain⟨rfl,s31⟩:=i25
      have s32:=c39 _ _ s31
      refine ae (bq (aa h123 (az rfl rfl (aa (v:=vi (Pu.W (x12.2.1+1))) rfl (ae ?_)))))
      obtain rfl:=oJ e10
      exact k12 _ _ ⟨_,_,g19,s32,h117,rfl,h119,h120,h121,h122⟩
     replace e10:=bb q29 e10
     refine af (aa h110 (aa (v:=vi x13) rfl (cd rfl rfl (aa (v:=.bool (decide (x13≤(Pu.W (s1.2.2.1-x12.2.1))))) rfl (ae (ap (P:=fun tm=>tm 0=v1∧tm 1=vi s1.2.1∧tm 2=vi s1.2.2.1∧tm 3=vi y3.2∧tm 8=(.bool (decide (x13≤(Pu.W (s1.2.2.1-x12.2.1)))))∧tm 9=(.bool x12.2.2)∧tm 14=vi x12.2.1∧True) ⟨h102,h103,h104,h105,rfl,h106,h108,trivial⟩ ?_))))))
     intro _ i26
     obtain⟨h124,h125,h126,h127,h128,h129,h130,-⟩:=i26
     refine af (aa h124 (aa h130 (az rfl rfl (aa h126 (aa h127 ?_)))))
     obtain⟨x15,q31,e10⟩:=oB e10
     obtain⟨Z20,V20,W11,g20,u11,c41,c42,-,c44,c43⟩:=Sat.call (l1:=[It.sl Sh.int v1 x12.1]) (l2:=[]) s29
     refine au (mc rfl (mc rfl (mc rfl (mc rfl m0)))) (ih c41 q31) fun _ H22 i27=>?_
     obtain⟨rfl,s33⟩:=i27
     have s34:=c43 _ _ s33
     refine ae (bq (aa h130 (aa (v:=vi x12.2.1) rfl (ae ?_))))
     obtain rfl:=oJ e10
     exact k12 _ _ ⟨_,_,g20,s34,h124,h125,rfl,h127,h128,h129⟩
    intro _ H20 i28
    obtain⟨Z18,V18,g18,s30,h111,h112,h113,h114,h115,h116⟩:=i28
    refine aF ?_
    exact k1 _ _ _ (sJ e1) ⟨_,_,(g1.trans (g5.trans (g7.trans (g8.trans (g10.trans (g11.trans (g12.trans (g14.trans (g17.trans g18))))))))),s30,h111,h112,h113,h114,h115,h116⟩
   intro _ H3 i29
   obtain⟨s3,f2,Z2,V2,g2,s4,h7,h8,h9,h10,h11,h12⟩:=i29
   replace e:=bD f2 e
   obtain rfl:=oJ e
   refine dk ?_
   exact⟨.inl rfl,_,rfl,rfl,(s4.weak g2 hs.zv)⟩
theorem X.B1 {T:FuncId→Option AFunc}(nd:Nd.B1 T){φ:Nat}{Z V:PH}{H:Hp}{v1:Value}{a0:(List Int)}{a1:Int}{a2:Int}{a3:Int}(hs:Sat Z V H [It.sl Sh.int v1 a0]){r:(List Int)}(e:P.B1 φ a0 a1 a2 a3=some r):
 G T I.B1 [v1,vi a1,vi a2,vi a3] H (fun rv H'=>rv=undef∧Sat Z V H' [It.sl Sh.int v1 r]):=(X.slices_pdqsortOrdered_int_rec nd φ) hs e
structure Nd.G9 (T:FuncId→Option AFunc):Prop where
 own:Has T I.G9 F.G9
 J2:Nd.J2 T
 B1:Nd.B1 T
theorem X.G9 {T:FuncId→Option AFunc}(nd:Nd.G9 T){φ:Nat}{Z V:PH}{H:Hp}{v1:Value}{a0:(List Int)}(hs:Sat Z V H [It.sl Sh.int v1 a0]){r:(List Int)}(e:P.G9 φ a0=some r):
 G T I.G9 [v1] H (fun rv H'=>rv=undef∧Sat Z V H' [It.sl Sh.int v1 r]):=by
 unfold P.G9 at e
 refine bB nd.own (af (aa (v:=v1) rfl (aD rfl ((hs.curS (s:=Sh.int) 0 rfl)).len (aa (v:=vN a0) rfl (ae (bq (aa (v:=v1) rfl (aa (v:=vN a0) rfl (aa (v:=vN a0) rfl (dw rfl ?_))))))))))
 obtain⟨x1,q1,e⟩:=oB e
 obtain⟨Z1,V1,W1,g1,u1,c1,c2,-,c4,c3⟩:=Sat.call (l1:=[]) hs
 refine au (mc rfl m0) (X.J2 nd.J2 c1 q1) fun _ H1 i1=>?_
 obtain⟨rfl,s1⟩:=i1
 have s2:=c3 _ _ s1
 obtain⟨x2,q2,e⟩:=oB e
 obtain⟨Z2,V2,W2,g2,u2,c5,c6,-,c8,c7⟩:=Sat.call (l1:=[It.sl Sh.int v1 a0]) (l2:=[]) s2
 refine au (mc rfl (mc rfl (mc rfl (mc rfl m0)))) (X.B1 nd.B1 c5 q2) fun _ H2 i2=>?_
 obtain⟨rfl,s3⟩:=i2
 have s4:=c7 _ _ s3
 refine ae ?_
 obtain rfl:=oJ e
 refine dk ?_
 exact⟨.inl rfl,_,rfl,rfl,(s4.weak (g1.trans g2) hs.zv)⟩
structure Nd.C7 (T:FuncId→Option AFunc):Prop where
 own:Has T I.C7 F.C7
 F4:Nd.F4 T
 G9:Nd.G9 T
theorem X.C7 {T:FuncId→Option AFunc}(nd:Nd.C7 T){φ:Nat}{Z V:PH}{H:Hp}{v1:Value}{v2:Value}{v3:Value}{pr1:Nat}{v5:Value}{a0:Ty.G3}{a1:(List Int)}(hs:Sat Z V H [])(_:RdS Sh.E2 Z v1 a0.g.Rules)(_:RdS Sh.B6 Z v2 a0.of_)(hp3:RdS (Sh.sl Sh.C9) Z v3 a0.next_)(hp4:V pr1=some (.rw 0 [vi a0.g.Terms,vi a0.g.Nons,vi a0.g.Start,v1,v2,v3]))(hp5:RdS Sh.int Z v5 a1){r:(List Int)}(e:P.C7 φ a0 a1=some r):
 G T I.C7 [(pV pr1 0),v5] H (fun rv H'=>∃(u1:Value),rv=u1∧Sat Z V H' [It.sl Sh.int u1 r]):=by
 unfold P.C7 at e
 refine bB nd.own (af (aa (v:=.slice none 0 0) rfl (ae (af (dy (vi:Int→Value) (Value.bool:Bool→Value) hs fun b1 H1 s1=>aa (v:=.map (some b1)) rfl (ae (af (aa (v:=.slice none 0 0) rfl (ae (ah (af (aa (v:=v5) rfl (aa (v:=v5) rfl (ae ?_))))))))))))))
 obtain⟨y1,q3,e⟩:=oB e
 refine bf (I:=fun tm H=>∃(s4:((List (Int×Bool))×(List Int)×(List Int))),y1= .out s4∧(∃(Z2 V2:PH) (w3:Value) (w4:Value),Gw Z V Z2 V2∧Sat Z2 V2 H [It.mp vi Value.bool b1 s4.1,It.sl Sh.int w3 s4.2.1]∧tm 0=(pV pr1 0)∧tm 5=(.map (some b1))∧tm 6=w3∧tm 7=w4∧RdS Sh.int Z2 w4 s4.2.2)) (fun k4=>?_) ?_
 ·refine ay (cc (fun(s2:((List (Int×Bool))×(List Int)×(List Int))) tm H=>∃(Z1 V1:PH) (w1:Value) (w2:Value),Gw Z V Z1 V1∧Sat Z1 V1 H [It.mp vi Value.bool b1 s2.1,It.sl Sh.int w1 s2.2.1]∧tm 0=(pV pr1 0)∧tm 5=(.map (some b1))∧tm 6=w1∧tm 7=w2∧RdS Sh.int Z1 w2 s2.2.2) (fun s2 y2 tm H3 j1 e1 k1 k2 k3=>?_) q3 ⟨_,_,_,_,Gw.refl _ _,((s1.push (aW (s:=Sh.int))).pick [1,0] rfl),rfl,rfl,rfl,rfl,hp5⟩)
  obtain⟨Z1,V1,w1,w2,g1,s3,h2,h3,h4,h5,h1⟩:=j1
  unfold P.C7.b0 at e1
  refine ah (af (aa h5 (aD rfl (h1).len (cC rfl rfl (ae (aI rfl (fun q4=>?_) (fun q4=>?_)))))))
  ·replace e1:=ax q4 e1
   refine ar (ay (af (aa h5 ?_)))
   obtain⟨x2,q5,e1⟩:=oB e1
   refine aJ (v:=w2) rfl rfl h1 rfl q5 fun p1 q6=>cj rfl h1 s3.z q6 q5 (aa (v:=vi x2) rfl (ae (af (aa h5 ?_))))
   obtain⟨x3,q7,e1⟩:=oB e1
   refine jS rfl rfl h1 s3.z rfl q7 fun w5 h11=>aa (v:=w5) rfl (ae (ap (P:=fun tm=>tm 0=(pV pr1 0)∧tm 5=(.map (some b1))∧tm 6=w1∧tm 7=w5∧tm 8=vi x2∧True) ⟨h2,h3,h4,rfl,rfl,trivial⟩ ?_))
   intro _ i2
   obtain⟨h12,h13,h14,h15,h16,-⟩:=i2
   refine ah (af (aa h13 (aa h16 (ck Mk.i (q:=x2) (z:=false) 0 s3 rfl rfl rfl rfl rfl (ae (bx rfl (fun q8=>?_) (fun q8=>?_)))))))
   ·replace e1:=ax q8 e1
    refine aR (aU (bT ?_))
    exact k1 _ _ _ (sJ e1) ⟨_,_,_,_,g1,s3,h12,h13,h14,h15,h11⟩
   replace e1:=aS q8 e1
   refine ar (af (aa h13 (aa h16 (dz Mk.i (q:=x2) (v:=true) 0 s3 rfl rfl rfl rfl rfl rfl fun H5 s6=>ae (af (aa h14 (aa h16 (bP (s:=Sh.int) (us:=[vi x2]) (qs:=[(0,1,(vi x2))]) (xs:=[x2]) s6 Sh.G5 rfl rfl rfl (Els.cons (c:=[vi x2]) rfl Els.nil) rfl rfl fun w6 H6 s7=>?_))))))))
   obtain⟨x4,q9,e1⟩:=oB e1
   refine cn 2 s7 rfl Sh.G5 rfl rfl rfl rfl (s7.curS (s:=Sh.int) 0 rfl) pR (fun h=>h) (by decide) q9 fun w7 H7 s8=>aa (v:=w7) rfl (ae (ap (P:=fun tm=>tm 0=(pV pr1 0)∧tm 5=(.map (some b1))∧tm 6=w7∧tm 7=w5∧tm 8=vi x2∧True) ⟨h12,h13,rfl,h15,h16,trivial⟩ ?_))
   intro _ i3
   obtain⟨h17,h18,h19,h20,h21,-⟩:=i3
   refine af (aa h17 (bS rfl (am rfl (jQ (g1.v _ _ hp4) s8.v rfl rfl rfl (aa h21 ?_)))))
   obtain⟨x5,q10,e1⟩:=oB e1
   refine aJ (v:=v3) rfl rfl (hp3.mono g1.z) rfl q10 fun p2 q11=>dh rfl (hp3.mono g1.z) s8.z q11 q10 fun w8 h22=>aD rfl (h22).len (aa (v:=vi 0) rfl (ae ?_))
   obtain⟨y3,q14,e1⟩:=oB e1
   refine ay (aV (xs:=x5) (fun(i4:Nat) (s9:(List Int)) tm H=>tm 38=vi i4∧∃(Z3 V3:PH) (w9:Value),Gw Z1 V1 Z3 V3∧Sat Z3 V3 H [It.mp vi Value.bool b1 (Pu.mput x2 true s2.1),It.sl Sh.int w7 x4]∧tm 0=(pV pr1 0)∧tm 5=(.map (some b1))∧tm 6=w7∧tm 7=w9∧tm 36=w8∧tm 37=(vN x5)∧RdS Sh.int Z3 w9 s9) (fun i4 x6 s9 s11 tm H9 q12 q13 j2 e2 k5=>?_) (fun tm H8 jd=>?_) q14 ⟨rfl,_,_,_,Gw.refl _ _,(s8.pick [1,2] rfl),h17,h18,h19,h20,rfl,rfl,h11⟩)
   ·obtain⟨hti1,Z3,V3,w9,g3,s10,h24,h25,h26,h27,h28,h29,h23⟩:=j2
    unfold P.C7.b1 at e2
    refine af (ao hti1 h29 (ae (ah (be rfl (Int.ofNat_lt.2 q13) (ar (ah (ay (af (aJ (v:=w8) h28 hti1 (h22.mono g3.z) rfl (Pu.ix_nat.trans q12) fun p3 q15=>cO rfl (h22.mono g3.z) s10.z rfl q15 (Pu.ix_nat.trans q12) fun c1 h30=>?_)))))))))
    obtain rfl:=h30
    refine bv s10 fun b2 H10 s12=>aP (us':=[vi x6.by_,vi x6.to]) 0 s12 rfl rfl rfl rfl rfl rfl rfl fun H11 s13=>ae (af (am rfl (ak 0 s13 rfl rfl rfl rfl (ao rfl rfl (ae ?_)))))
    obtain⟨y4,e3,e2⟩:=oB e2
    refine bf (I:=fun tm H=>∃(Z4 V4:PH) (w10:Value),Gw Z3 V3 Z4 V4∧Sat Z4 V4 H [It.mp vi Value.bool b1 (Pu.mput x2 true s2.1),It.sl Sh.int w7 x4]∧tm 0=(pV pr1 0)∧tm 5=(.map (some b1))∧tm 6=w7∧tm 7=w10∧tm 36=w8∧tm 37=(vN x5)∧tm 38=(vJ i4)∧RdS Sh.int Z4 w10 y4) (fun k6=>?_) ?_
    ·refine aI rfl (fun q16=>?_) (fun q16=>?_)
     ·replace e3:=ax q16 e3
      refine ap (P:=fun tm=>tm 0=(pV pr1 0)∧tm 5=(.map (some b1))∧tm 6=w7∧tm 7=w9∧tm 10=(pV b2 0)∧tm 36=w8∧tm 37=(vN x5)∧tm 38=(vJ i4)∧True) ⟨h24,h25,h26,h27,rfl,h28,h29,hti1,trivial⟩ ?_
      intro _ i5
      obtain⟨h39,h40,h41,h42,h43,h44,h45,h46,-⟩:=i5
      refine aA s13 fun n1 H13 s15 q17 d1=>aj h42 ?_
      obtain⟨x7,q18,e3⟩:=oB e3
      obtain⟨Z5,V5,W1,g5,u1,c2,c3,-,c5,c4⟩:=Sat.call (l1:=[]) s15
      refine bK (mc rfl m0) (X.F4 nd.F4 c2 (h23.mono (g5.z.trans c2.zv)) q18) fun w11 H14 i6 k7=>?_
      have d2:=d1.keep k7
      obtain⟨_,rfl,s16⟩:=i6
      have s17:=c4 _ _ s16
      refine bt h43 (aZ (q17 _ _ (an.2 ⟨s15.curB 0 rfl,by simp⟩)) 1 s17 rfl rfl rfl rfl (fE (s:=Sh.int) (us:=[vi x6.to]) (qs:=[(0,1,(vi x6.to))]) (xs:=[x6.to]) (d2.get 4 rfl rfl) s17 Sh.G5 rfl rfl rfl (Els.cons (c:=[vi x6.to]) rfl Els.nil) rfl rfl fun w12 H15 s18 k8=>?_))
      have d3:=d2.next 4 rfl k8
      obtain⟨x8,q19,e3⟩:=oB e3
      refine fD 1 s18 rfl Sh.G5 rfl rfl rfl rfl (s18.curS (s:=Sh.int) 0 rfl) pR (fun h=>h) (by decide) q19 fun w13 H16 s19 k9=>?_
      have d4:=d3.keep k9
      refine aj (v:=w13) rfl (aQ (cV rfl (ta4 (tre (tl2 (trl tr0)))) (ta4 (ta2 (tre (trl tr0)))) (ta4 (tra (tre (tl2 tr0)))) (bZ (w:=vi x6.to) ek rfl (bG 1 s17 rfl rfl rfl) (bG 0 s15 rfl rfl rfl) (by simp [vsame,vsame1])) (bZ (w:=vi x6.to) ek rfl (bG 1 s17 rfl rfl rfl) (bG 1 s17 rfl rfl rfl) (by simp [vsame,vsame1])) aK) ?_)
      obtain rfl:=oJ e3
      obtain⟨Z6,V6,g6,s20,h47⟩:=s19.frzS 1 rfl
      exact k6 _ _ ⟨_,_,_,(g5.trans g6),(s20.pick [2,3] rfl),h39,h40,h41,rfl,h44,h45,h46,h47⟩
     replace e3:=bb q16 e3
     refine ar ?_
     obtain rfl:=oJ e3
     exact k6 _ _ ⟨_,_,_,Gw.refl _ _,(s13.pick [1,2] rfl),h24,h25,h26,h27,h28,h29,hti1,h23⟩
    intro _ H12 i7
    obtain⟨Z4,V4,w10,g4,s14,h32,h33,h34,h35,h36,h37,h38,h31⟩:=i7
    refine aF (bq (az h38 rfl (aa (v:=vi (Pu.W ((i4:Int)+1))) rfl (ae ?_))))
    obtain rfl:=oJ e2
    exact k5 _ _ ⟨(iv rfl (bE q13 (h22).bd)),_,_,_,(g3.trans g4),s14,h32,h33,h34,h35,h36,h37,h31⟩
   obtain⟨hte1,Z7,V7,w14,g7,s21,h49,h50,h51,h52,h53,h54,h48⟩:=jd
   refine af (ao hte1 h54 (ae (ah (bc rfl (Int.lt_irrefl _) (aR (aU (aU (bT (aF ?_)))))))))
   exact k1 _ _ _ (sJ e1) ⟨_,_,_,_,(g1.trans g7),s21,h49,h50,h51,h52,h48⟩
  replace e1:=bb q4 e1
  refine aR (aU (aU (bT ?_)))
  exact k4 _ _ ⟨_,k2 _ (sJ e1),_,_,_,_,g1,s3,h2,h3,h4,h5,h1⟩
 intro _ H4 i8
 obtain⟨s4,f1,Z2,V2,w3,w4,g2,s5,h7,h8,h9,h10,h6⟩:=i8
 replace e:=bD f1 e
 refine af (aa h9 ?_)
 obtain⟨x9,q20,e⟩:=oB e
 obtain⟨Z8,V8,W2,g8,u2,c6,c7,-,c9,c8⟩:=Sat.call (l1:=[It.sl Sh.int w3 s4.2.1]) (l2:=[It.mp vi Value.bool b1 s4.1]) (s5.pick [1,0] rfl)
 refine au (mc rfl m0) (X.G9 nd.G9 c6 q20) fun _ H18 i9=>?_
 obtain⟨rfl,s22⟩:=i9
 have s23:=c8 _ _ s22
 refine ae (af (aa h9 (aa (v:=w3) rfl (ae (aL ?_)))))
 obtain rfl:=oJ e
 exact⟨.inr rfl,_,(ar1 rfl),_,rfl,((s23.pick [0] rfl).weak (g2.trans g8) hs.zv)⟩
structure Nd.E0 (T:FuncId→Option AFunc):Prop where
 own:Has T I.E0 F.E0
theorem X.E0 (nd:Nd.E0 T){v1:Value}{v2:Value}{a0:(List Int)}{a1:(List Int)}(hs:Sat Z V H [])(hp1:RdS Sh.int V v1 a0)(hp2:RdS Sh.int V v2 a1){r:Bool}(e:P.E0 a0 a1=some r):
 G T I.E0 [v1,v2] H (fun rv H'=>rv=(.bool r)∧Sat Z V H' []):=by
 unfold P.E0 at e
 refine bB nd.own (af (aa (v:=.bool false) rfl (ae (ah (af (aa (v:=v1) rfl (aD rfl (hp1).len (aa (v:=v2) rfl (aD rfl (hp2).len (cQ rfl rfl (ae (aI rfl (fun q1=>?_) (fun q1=>?_)))))))))))))
 ·replace e:=ax q1 e
  refine af (aa (v:=.bool false) rfl (ae (aL ?_)))
  obtain rfl:=oJ e
  exact⟨.inr rfl,_,(ar1 rfl),rfl,hs⟩
 replace e:=bb q1 e
 refine ar (ah (af (aa (v:=v1) rfl (aD rfl (hp1).len (aa (v:=vi 0) rfl (ae ?_))))))
 obtain⟨x2,q4,e⟩:=oB e
 obtain⟨rfl,q6⟩:=bp q4
 obtain⟨y1,q7,e⟩:=oB e
 refine bf (I:=fun tm H=>∃(s3:Unit),y1= .out s3∧(∃(Z2 V2:PH),Gw Z V Z2 V2∧Sat Z2 V2 H []∧tm 0=v1∧tm 1=v2∧tm 12=(vN a0))) (fun k4=>?_) ?_
 ·refine ay (cY (xs:=Pu.ran (a0.length:Int)) (fun(i1:Nat) (s1:Unit) tm H=>tm 13=vi i1∧∃(Z1 V1:PH),Gw Z V Z1 V1∧Sat Z1 V1 H []∧tm 0=v1∧tm 1=v2∧tm 12=(vN a0)) (fun i1 x1 s1 y2 tm H2 q2 q3 j1 e1 k1 k2 k3=>?_) (fun s1 tm H1 jf jd=>?_) q7 ⟨rfl,_,_,Gw.refl _ _,hs,rfl,rfl,rfl⟩)
  ·obtain⟨hti0,Z1,V1,g1,s2,h1,h2,h3⟩:=j1
   unfold P.E0.b0 at e1
   have hti0:=iv hti0 (cD q2).symm
   refine af (ao hti0 h3 (ae (ah (be rfl (cf q2) (ar (ah (ay (af (aa hti0 (aa (v:=vi x1) rfl (ae (ah (aA s2 fun n1 H4 s5 q8 d1=>aj h1 (aj (v:=vi x1) rfl ?_))))))))))))))
   obtain⟨x3,q9,e1⟩:=oB e1
   refine aq (v:=v1) rfl rfl (hp1.mono g1.v) rfl q9 fun p1 q10=>aO (RdS.low (hp1.mono g1.v) s5.v q8) rfl hp1 (g1.v.trans s5.v) q10 q9 (aj h2 (aj (v:=vi x1) rfl ?_))
   obtain⟨x4,q11,e1⟩:=oB e1
   refine aq (v:=v2) rfl rfl (hp2.mono g1.v) rfl q11 fun p2 q12=>aO (RdS.low (hp2.mono g1.v) s5.v q8) rfl hp2 (g1.v.trans s5.v) q12 q11 (iP rfl rfl (aQ aK (ap (P:=fun tm=>tm 0=v1∧tm 1=v2∧tm 12=(vN a0)∧tm 13=vi x1∧tm 24=(.bool (decide (x3≠x4)))∧True) ⟨h1,h2,h3,hti0,rfl,trivial⟩ ?_)))
   intro _ i2
   obtain⟨h7,h8,h9,h10,h11,-⟩:=i2
   refine aI h11 (fun q13=>?_) (fun q13=>?_)
   ·replace e1:=ax q13 e1
    refine af (aa (v:=.bool false) rfl (ae (aL ?_)))
    have e2:=ci (k3 _ (sJ e1)) e
    obtain rfl:=oJ e2
    exact⟨.inr rfl,_,(ar1 rfl),rfl,(s5.weak g1 hs.zv)⟩
   replace e1:=bb q13 e1
   refine ar (aF (bq (az h10 rfl (aa (v:=vi (Pu.W (x1+1))) rfl (ae ?_)))))
   exact k1 _ _ _ (sJ e1) ⟨(iv rfl (bU q2 q6)),_,_,g1,s5,h7,h8,h9⟩
  ·obtain⟨hte0,Z3,V3,g3,s6,h12,h13,h14⟩:=jd
   refine af (ao hte0 h14 (ae (ah (bc rfl (bA _) (aR (aU (aU (bT ?_))))))))
   exact k4 _ _ ⟨_,jf,_,_,g3,s6,h12,h13,h14⟩
 intro _ H3 i3
 obtain⟨s3,f1,Z2,V2,g2,s4,h4,h5,h6⟩:=i3
 replace e:=bD f1 e
 refine af (aa (v:=.bool true) rfl (ae (aL ?_)))
 obtain rfl:=oJ e
 exact⟨.inr rfl,_,(ar1 rfl),rfl,(s4.weak g2 hs.zv)⟩
structure Nd.J0 (T:FuncId→Option AFunc):Prop where
 own:Has T I.J0 F.J0
 E0:Nd.E0 T
theorem X.J0 (nd:Nd.J0 T){v1:Value}{v2:Value}{o1:Nat}{a0:(List Int)}{a1:(List Int)}(hs:Sat Z V H [pts o1 (.rw 0 [v2])])(hp1:RdS Sh.int V v1 a0)(hp2:RdS Sh.int V v2 a1){r:Bool}(e:P.J0 a0 a1=some r):
 G T I.J0 [v1,(pV o1 0)] H (fun rv H'=>rv=(.bool r)∧Sat Z V H' [pts o1 (.rw 0 [v2])]):=by
 unfold P.J0 at e
 refine bB nd.own (af (aa (v:=.bool false) rfl (ae (af (aa (v:=v1) rfl ?_)))))
 obtain⟨d1,rfl⟩:=(hp2).val
 refine ak 0 hs rfl rfl rfl rfl ?_
 obtain⟨x1,q1,e⟩:=oB e
 obtain⟨Z1,V1,W1,g1,u1,c1,c2,-,c4,c3⟩:=Sat.call (l1:=[]) hs
 refine au (mc rfl (mc rfl m0)) (X.E0 nd.E0 c1 (hp1.mono (g1.v.trans u1)) (hp2.mono (g1.v.trans u1)) q1) fun _ H1 i1=>?_
 obtain⟨rfl,s1⟩:=i1
 have s2:=c3 _ _ s1
 refine aa (v:=.bool x1) rfl (ae (aL ?_))
 obtain rfl:=oJ e
 exact⟨.inr rfl,_,(ar1 rfl),rfl,(s2.weak g1 hs.zv)⟩
structure Nd.F7 (T:FuncId→Option AFunc):Prop where
 own:Has T I.G1 F.G1
 J0:Nd.J0 T
theorem X.F7 (nd:Nd.F7 T){v1:Value}{v2:Value}{o1:Nat}{a0:(List (List Int))}{a1c0:(List Int)}(hs:Sat Z V H [pts o1 (.rw 0 [v2])])(hp1:RdS sI1 V v1 a0)(hp2:RdS Sh.int V v2 a1c0){r:Int}(e:P.F7 a0 a1c0=some r):
 G T I.G1 [v1,(.func (.func I.J0) #[] #[(pV o1 0)])] H (fun rv H'=>rv=vi r∧Sat Z V H' [pts o1 (.rw 0 [v2])]):=by
 unfold P.F7 at e
 refine bB nd.own (af (aa (v:=vi 0) rfl (ae (ah (af (aa (v:=v1) rfl (aD rfl (hp1).len (aa (v:=vi 0) rfl (ae ?_)))))))))
 obtain⟨x2,q3,e⟩:=oB e
 obtain⟨rfl,q5⟩:=bp q3
 obtain⟨y1,q6,e⟩:=oB e
 refine bf (I:=fun tm H=>∃(s3:Unit),y1= .out s3∧(∃(Z2 V2:PH),Gw Z V Z2 V2∧Sat Z2 V2 H [pts o1 (.rw 0 [v2])]∧tm 0=v1∧tm 1=(.func (.func I.J0) #[] #[(pV o1 0)])∧tm 7=(vN a0))) (fun k4=>?_) ?_
 ·refine ay (cY (xs:=Pu.ran (a0.length:Int)) (fun(i1:Nat) (s1:Unit) tm H=>tm 8=vi i1∧∃(Z1 V1:PH),Gw Z V Z1 V1∧Sat Z1 V1 H [pts o1 (.rw 0 [v2])]∧tm 0=v1∧tm 1=(.func (.func I.J0) #[] #[(pV o1 0)])∧tm 7=(vN a0)) (fun i1 x1 s1 y2 tm H2 q1 q2 j1 e1 k1 k2 k3=>?_) (fun s1 tm H1 jf jd=>?_) q6 ⟨rfl,_,_,Gw.refl _ _,hs,rfl,rfl,rfl⟩)
  ·obtain⟨hti0,Z1,V1,g1,s2,h1,h2,h3⟩:=j1
   unfold P.F7.b0 at e1
   have hti0:=iv hti0 (cD q1).symm
   refine af (ao hti0 h3 (ae (ah (be rfl (cf q1) (ar (ah (ay (af (aa hti0 (aa (v:=vi x1) rfl (ae (af (aa h2 (aa h1 (aa (v:=vi x1) rfl ?_)))))))))))))))
   obtain⟨x3,q7,e1⟩:=oB e1
   refine aJ (v:=v1) rfl rfl (hp1.mono g1.v) rfl q7 fun p1 q8=>dh rfl (hp1.mono g1.v) s2.v q8 q7 fun w1 h7=>?_
   obtain⟨x4,q9,e1⟩:=oB e1
   obtain⟨d1,rfl⟩:=((hp2.mono g1.v)).val
   obtain⟨Z3,V3,W1,g3,u1,c1,c2,-,c4,c3⟩:=Sat.call (l1:=[pts o1 (.rw 0 [(vS d1 a1c0)])]) (l2:=[]) s2
   refine je rfl (mc rfl m0) (X.J0 nd.J0 (a1:=a1c0) c1 (h7.mono (g3.v.trans u1)) (hp2.mono ((g1.trans g3).v.trans u1)) q9) fun _ H4 i2=>?_
   obtain⟨rfl,s5⟩:=i2
   have s6:=c3 _ _ s5
   refine ae (bx rfl (fun q10=>?_) (fun q10=>?_))
   ·replace e1:=ax q10 e1
    refine af (aa (v:=vi x1) rfl (aa (v:=vi x1) rfl (ae (ap (P:=fun tm=>tm 4=vi x1∧True) ⟨rfl,trivial⟩ ?_))))
    intro _ i3
    obtain⟨h8,-⟩:=i3
    refine aL ?_
    have e2:=ci (k3 _ (sJ e1)) e
    obtain rfl:=oJ e2
    exact⟨.inr rfl,_,(ar1 h8),rfl,(s6.weak (g1.trans g3) hs.zv)⟩
   replace e1:=aS q10 e1
   refine ar (aF (bq (az hti0 rfl (aa (v:=vi (Pu.W (x1+1))) rfl (ae ?_)))))
   exact k1 _ _ _ (sJ e1) ⟨(iv rfl (bU q1 q5)),_,_,(g1.trans g3),s6,h1,h2,h3⟩
  ·obtain⟨hte0,Z4,V4,g4,s7,h9,h10,h11⟩:=jd
   refine af (ao hte0 h11 (ae (ah (bc rfl (bA _) (aR (aU (aU (bT ?_))))))))
   exact k4 _ _ ⟨_,jf,_,_,g4,s7,h9,h10,h11⟩
 intro _ H3 i4
 obtain⟨s3,f1,Z2,V2,g2,s4,h4,h5,h6⟩:=i4
 replace e:=bD f1 e
 refine af (aa (v:=vi (-1)) rfl (ae (aL ?_)))
 obtain⟨d2,rfl⟩:=((hp2.mono g2.v)).val
 obtain rfl:=oJ e
 exact⟨.inr rfl,_,(ar1 rfl),rfl,(s4.weak g2 hs.zv)⟩
structure Nd.B8 (T:FuncId→Option AFunc):Prop where
 own:Has T I.B8 F.B8
 C7:Nd.C7 T
 F7:Nd.F7 T
 C4:Nd.C4 T
theorem X.B8 {T:FuncId→Option AFunc}(nd:Nd.B8 T){φ:Nat}{Z V:PH}{H:Hp}{v1:Value}{v2:Value}{v3:Value}{pr1:Nat}{a0:Ty.G3}{a1:Int}{a2:Int}(hs:Sat Z V H [])(hp1:RdS Sh.E2 Z v1 a0.g.Rules)(hp2:RdS Sh.B6 Z v2 a0.of_)(hp3:RdS (Sh.sl Sh.C9) Z v3 a0.next_)(hp4:V pr1=some (.rw 0 [vi a0.g.Terms,vi a0.g.Nons,vi a0.g.Start,v1,v2,v3])){r:(Ty.J5×Bool)}(e:P.B8 φ a0 a1 a2=some r):
 G T I.B8 [(pV pr1 0),vi a1,vi a2] H (fun rv H'=>∃(u1:Value) (u2:Value),rv=(.tuple #[(.agg #[vi r.1.Start,u1,u2]),(.bool r.2)])∧Sat Z V H' [It.sl Sh.int u1 r.1.Accept,It.sl (Sh.ro sI1) u2 r.1.Next]):=by
 unfold P.B8 at e
 refine bB nd.own (af (bv hs fun b1 H1 s1=>aa (v:=.bool false) rfl (ae (af (aa (v:=pV pr1 0) rfl (aa (v:=vi a1) rfl (bP (s:=Sh.int) (us:=[vi a1]) (qs:=[(0,1,(vi a1))]) (xs:=[a1]) s1 Sh.G5 rfl rfl rfl (Els.cons (c:=[vi a1]) rfl Els.nil) rfl rfl fun w1 H2 s2=>?_)))))))
 obtain⟨Z1,V1,g1,s3,h1⟩:=s2.frzS 0 rfl
 obtain⟨x1,q1,e⟩:=oB e
 obtain⟨Z2,V2,W1,g2,u1,c1,c2,-,c4,c3⟩:=Sat.call (l1:=[]) s3
 refine au (mc rfl (mc rfl m0)) (X.C7 nd.C7 (a0:=a0) c1 (hp1.mono (g1.trans g2).z) (hp2.mono (g1.trans g2).z) (hp3.mono (g1.trans g2).z) (((g1.trans g2).v.trans u1) _ _ hp4) (h1.mono g2.z) q1) fun w2 H3 i1=>?_
 obtain⟨_,rfl,s4⟩:=i1
 have s5:=c3 _ _ s4
 obtain⟨Z3,V3,g3,s6,h2⟩:=s5.frzS 0 rfl
 obtain⟨d1,rfl⟩:=(h2).val
 refine bP (s:=Sh.ro sI1) (us:=[(vS d1 x1)]) (qs:=[(0,1,(vS d1 x1))]) (xs:=[x1]) s6 (Sh.ro_lt _) rfl rfl rfl (Els.cons (c:=[(vS d1 x1)]) (cR h2) Els.nil) rfl rfl fun w3 H4 s7=>aa (v:=w3) rfl (ae (af (bR (qs:=[]) rfl rfl (bv s7 fun b2 H5 s8=>aP (us':=[vi 0,(.slice none 0 0),(.slice none 0 0)]) 0 s8 rfl rfl rfl rfl rfl rfl rfl fun H6 s9=>ae (ap (P:=fun tm=>tm 0=(pV pr1 0)∧tm 2=vi a2∧tm 6=(pV b1 0)∧tm 8=w3∧tm 9=(pV b2 0)∧True) ⟨rfl,rfl,rfl,rfl,rfl,trivial⟩ ?_)))))
 intro _ i2
 obtain⟨h3,h4,h5,h6,h7,-⟩:=i2
 refine ah (af (aa (v:=vi 0) rfl (ae ?_)))
 obtain⟨y1,q4,e⟩:=oB e
 refine bf (I:=fun tm H=>∃(s12:((List (List Int))×(List Int)×(List (List Int))×Int)),y1= .out s12∧(∃(Z5 V5:PH) (w7:Value) (w8:Value) (w9:Value),Gw Z3 V3 Z5 V5∧Sat Z5 V5 H [pts b1 (.rw 0 [vi 0,(.slice none 0 0),(.slice none 0 0)]),It.sl (Sh.ro sI1) w7 s12.1,pts b2 (.rw 0 [vi 0,w8,w9]),It.sl Sh.int w8 s12.2.1,It.sl (Sh.ro sI1) w9 s12.2.2.1]∧tm 0=(pV pr1 0)∧tm 2=vi a2∧tm 6=(pV b1 0)∧tm 8=w7∧tm 9=(pV b2 0)∧tm 10=vi s12.2.2.2)) (fun k4=>?_) ?_
 ·refine ay (cc (fun(s10:((List (List Int))×(List Int)×(List (List Int))×Int)) tm H=>∃(Z4 V4:PH) (w4:Value) (w5:Value) (w6:Value),Gw Z3 V3 Z4 V4∧Sat Z4 V4 H [pts b1 (.rw 0 [vi 0,(.slice none 0 0),(.slice none 0 0)]),It.sl (Sh.ro sI1) w4 s10.1,pts b2 (.rw 0 [vi 0,w5,w6]),It.sl Sh.int w5 s10.2.1,It.sl (Sh.ro sI1) w6 s10.2.2.1]∧tm 0=(pV pr1 0)∧tm 2=vi a2∧tm 6=(pV b1 0)∧tm 8=w4∧tm 9=(pV b2 0)∧tm 10=vi s10.2.2.2) (fun s10 y2 tm H8 j1 e1 k1 k2 k3=>?_) q4 ⟨_,_,_,_,_,Gw.refl _ _,(((s9.push (aW (s:=Sh.int))).push (aW (s:=Sh.ro sI1))).pick [4,3,2,1,0] rfl),h3,h4,h5,h6,h7,rfl⟩)
  obtain⟨Z4,V4,w4,w5,w6,g4,s11,h8,h9,h10,h11,h12,h13⟩:=j1
  unfold P.B8.b0 at e1
  refine ah (af (aa h13 (aa h11 (aD rfl ((s11.curS (s:=Sh.ro sI1) 1 rfl)).len (ao rfl rfl (ae (aI rfl (fun q5=>?_) (fun q5=>?_))))))))
  ·replace e1:=ax q5 e1
   refine ar (ah (ay (af (aa (v:=.slice none 0 0) rfl (ae (ah (af (aa h8 (bS rfl (am rfl (am rfl (jQ ((g1.trans (g2.trans (g3.trans g4))).v _ _ hp4) s11.v rfl rfl rfl (aa (v:=vi 0) rfl (ae (ap (P:=fun tm=>tm 0=(pV pr1 0)∧tm 2=vi a2∧tm 6=(pV b1 0)∧tm 8=w4∧tm 9=(pV b2 0)∧tm 10=vi s10.2.2.2∧tm 11=(.slice none 0 0)∧tm 35=vi a0.g.Terms∧tm 36=vi 0∧True) ⟨h8,h9,h10,h11,h12,h13,rfl,rfl,rfl,trivial⟩ ?_)))))))))))))))
   intro _ i4
   obtain⟨h20,h21,h22,h23,h24,h25,h26,h27,h28,-⟩:=i4
   obtain⟨x4,q8,e1⟩:=oB e1
   obtain⟨rfl,q10⟩:=bp q8
   obtain⟨y3,q11,e1⟩:=oB e1
   refine ay (aV (xs:=Pu.ran a0.g.Terms) (fun(i5:Nat) (s14:((List (List Int))×(List Int))) tm H=>tm 36=vi i5∧∃(Z6 V6:PH) (w10:Value) (w11:Value),Gw Z4 V4 Z6 V6∧Sat Z6 V6 H [pts b1 (.rw 0 [vi 0,(.slice none 0 0),(.slice none 0 0)]),It.sl (Sh.ro sI1) w10 s14.1,pts b2 (.rw 0 [vi 0,w5,w6]),It.sl Sh.int w5 s10.2.1,It.sl (Sh.ro sI1) w6 s10.2.2.1,It.sl Sh.int w11 s14.2]∧tm 0=(pV pr1 0)∧tm 2=vi a2∧tm 6=(pV b1 0)∧tm 8=w10∧tm 9=(pV b2 0)∧tm 10=vi s10.2.2.2∧tm 11=w11∧tm 35=vi a0.g.Terms) (fun i5 x3 s14 s16 tm H11 q6 q7 j2 e2 k5=>?_) (fun tm H10 jd=>?_) q11 ⟨h28,_,_,_,_,Gw.refl _ _,((s11.push (aW (s:=Sh.int))).pick [1,2,3,4,5,0] rfl),h20,h21,h22,h23,h24,h25,h26,h27⟩)
   ·obtain⟨hti1,Z6,V6,w10,w11,g6,s15,h29,h30,h31,h32,h33,h34,h35,h36⟩:=j2
    unfold P.B8.b1 at e2
    have hti1:=iv hti1 (cD q6).symm
    refine af (ao hti1 h36 (ae (ah (be rfl (cf q6) (ar (ah (ay (af (aa hti1 (aa (v:=vi x3) rfl (ae (af (bv s15 fun b3 H12 s17=>ae (ah (af (aa h32 (aa h34 ?_)))))))))))))))))
    obtain⟨x5,q12,e2⟩:=oB e2
    refine aJ (v:=w10) rfl rfl (s17.curS (s:=Sh.ro sI1) 2 rfl) rfl q12 fun p1 q13=>jR 2 s17 rfl rfl q13 q12 fun Z7 V7 w12 g7 s18 h37=>aD rfl (h37).len (aa (v:=vi 0) rfl (ae (ap (P:=fun tm=>tm 0=(pV pr1 0)∧tm 2=vi a2∧tm 6=(pV b1 0)∧tm 8=w10∧tm 9=(pV b2 0)∧tm 10=vi s10.2.2.2∧tm 11=w11∧tm 12=vi x3∧tm 13=(pV b3 0)∧tm 35=vi a0.g.Terms∧tm 36=vi x3∧tm 42=w12∧tm 43=(vN x5)∧tm 44=vi 0∧True) ⟨h29,h30,h31,h32,h33,h34,h35,rfl,rfl,h36,hti1,rfl,rfl,rfl,trivial⟩ ?_)))
    intro _ i6
    obtain⟨h38,h39,h40,h41,h42,h43,h44,h45,h46,h47,h48,h49,h50,h51,-⟩:=i6
    obtain⟨y4,q16,e2⟩:=oB e2
    refine ay (aV (xs:=x5) (fun(i7:Nat) (s19:(List Int)) tm H=>tm 44=vi i7∧∃(Z8 V8:PH) (w13:Value),Gw Z7 V7 Z8 V8∧Sat Z8 V8 H [pts b1 (.rw 0 [vi 0,(.slice none 0 0),(.slice none 0 0)]),It.sl (Sh.ro sI1) w10 s14.1,pts b2 (.rw 0 [vi 0,w5,w6]),It.sl Sh.int w5 s10.2.1,It.sl (Sh.ro sI1) w6 s10.2.2.1,It.sl Sh.int w11 s14.2,pts b3 (.rw 0 [w13]),It.sl Sh.int w13 s19]∧tm 0=(pV pr1 0)∧tm 2=vi a2∧tm 6=(pV b1 0)∧tm 8=w10∧tm 9=(pV b2 0)∧tm 10=vi s10.2.2.2∧tm 11=w11∧tm 12=vi x3∧tm 13=(pV b3 0)∧tm 35=vi a0.g.Terms∧tm 36=vi x3∧tm 42=w12∧tm 43=(vN x5)) (fun i7 x6 s19 s21 tm H14 q14 q15 j3 e3 k6=>?_) (fun tm H13 jd=>?_) q16 ⟨h51,_,_,_,Gw.refl _ _,((s18.push (aW (s:=Sh.int))).pick [2,3,4,5,6,7,1,0] rfl),h38,h39,h40,h41,h42,h43,h44,h45,h46,h47,h48,h49,h50⟩)
    ·obtain⟨hti2,Z8,V8,w13,g8,s20,h52,h53,h54,h55,h56,h57,h58,h59,h60,h61,h62,h63,h64⟩:=j3
     unfold P.B8.b2 at e3
     refine af (ao hti2 h64 (ae (ah (be rfl (Int.ofNat_lt.2 q15) (ar (ah (ay (af (aJ (v:=w12) h63 hti2 (h37.mono g8.z) rfl (Pu.ix_nat.trans q14) fun p2 q17=>cj rfl (h37.mono g8.z) s20.z q17 (Pu.ix_nat.trans q14) (aa (v:=vi x6) rfl (ae (af (aa h52 (bS rfl (am rfl (jQ ((g1.trans (g2.trans (g3.trans (g4.trans (g6.trans (g7.trans g8)))))).v _ _ hp4) s20.v rfl rfl rfl (aa (v:=vi x6) rfl ?_)))))))))))))))))
     obtain⟨x7,q18,e3⟩:=oB e3
     refine aJ (v:=v3) rfl rfl (hp3.mono (g1.trans (g2.trans (g3.trans (g4.trans (g6.trans (g7.trans g8)))))).z) rfl q18 fun p3 q19=>dh rfl (hp3.mono (g1.trans (g2.trans (g3.trans (g4.trans (g6.trans (g7.trans g8)))))).z) s20.z q19 q18 fun w14 h65=>aD rfl (h65).len (aa (v:=vi 0) rfl (ae (ap (P:=fun tm=>tm 0=(pV pr1 0)∧tm 2=vi a2∧tm 6=(pV b1 0)∧tm 8=w10∧tm 9=(pV b2 0)∧tm 10=vi s10.2.2.2∧tm 11=w11∧tm 12=vi x3∧tm 13=(pV b3 0)∧tm 35=vi a0.g.Terms∧tm 36=vi x3∧tm 42=w12∧tm 43=(vN x5)∧tm 44=(vJ i7)∧tm 54=w14∧tm 55=(vN x7)∧tm 56=vi 0∧True) ⟨h52,h53,h54,h55,h56,h57,h58,h59,h60,h61,h62,h63,h64,hti2,rfl,rfl,rfl,trivial⟩ ?_)))
     intro _ i8
     obtain⟨h66,h67,h68,h69,h70,h71,h72,h73,h74,h75,h76,h77,h78,h79,h80,h81,h82,-⟩:=i8
     obtain⟨y5,q22,e3⟩:=oB e3
     refine ay (aV (xs:=x7) (fun(i9:Nat) (s22:(List Int)) tm H=>tm 56=vi i9∧∃(Z9 V9:PH) (w15:Value),Gw Z8 V8 Z9 V9∧Sat Z9 V9 H [pts b1 (.rw 0 [vi 0,(.slice none 0 0),(.slice none 0 0)]),It.sl (Sh.ro sI1) w10 s14.1,pts b2 (.rw 0 [vi 0,w5,w6]),It.sl Sh.int w5 s10.2.1,It.sl (Sh.ro sI1) w6 s10.2.2.1,It.sl Sh.int w11 s14.2,pts b3 (.rw 0 [w15]),It.sl Sh.int w15 s22]∧tm 0=(pV pr1 0)∧tm 2=vi a2∧tm 6=(pV b1 0)∧tm 8=w10∧tm 9=(pV b2 0)∧tm 10=vi s10.2.2.2∧tm 11=w11∧tm 12=vi x3∧tm 13=(pV b3 0)∧tm 35=vi a0.g.Terms∧tm 36=vi x3∧tm 42=w12∧tm 43=(vN x5)∧tm 44=(vJ i7)∧tm 54=w14∧tm 55=(vN x7)) (fun i9 x8 s22 s24 tm H16 q20 q21 j4 e4 k7=>?_) (fun tm H15 jd=>?_) q22 ⟨h82,_,_,_,Gw.refl _ _,s20,h66,h67,h68,h69,h70,h71,h72,h73,h74,h75,h76,h77,h78,h79,h80,h81⟩)
     ·obtain⟨hti3,Z9,V9,w15,g9,s23,h83,h84,h85,h86,h87,h88,h89,h90,h91,h92,h93,h94,h95,h96,h97,h98⟩:=j4
      unfold P.B8.b3 at e4
      refine af (ao hti3 h98 (ae (ah (be rfl (Int.ofNat_lt.2 q21) (ar (ah (ay (af (aJ (v:=w14) h97 hti3 (h65.mono g9.z) rfl (Pu.ix_nat.trans q20) fun p4 q23=>cO rfl (h65.mono g9.z) s23.z rfl q23 (Pu.ix_nat.trans q20) fun c5 h99=>?_)))))))))
      obtain rfl:=h99
      refine bv s23 fun b4 H17 s25=>aP (us':=[vi x8.by_,vi x8.to]) 0 s25 rfl rfl rfl rfl rfl rfl rfl fun H18 s26=>ae (af (am rfl (ak 0 s26 rfl rfl rfl rfl (aa h90 (co rfl rfl (ae ?_))))))
      obtain⟨y6,e5,e4⟩:=oB e4
      refine bf (I:=fun tm H=>∃(Z10 V10:PH) (w16:Value),Gw Z9 V9 Z10 V10∧Sat Z10 V10 H [pts b1 (.rw 0 [vi 0,(.slice none 0 0),(.slice none 0 0)]),It.sl (Sh.ro sI1) w10 s14.1,pts b2 (.rw 0 [vi 0,w5,w6]),It.sl Sh.int w5 s10.2.1,It.sl (Sh.ro sI1) w6 s10.2.2.1,It.sl Sh.int w11 s14.2,pts b3 (.rw 0 [w16]),It.sl Sh.int w16 y6]∧tm 0=(pV pr1 0)∧tm 2=vi a2∧tm 6=(pV b1 0)∧tm 8=w10∧tm 9=(pV b2 0)∧tm 10=vi s10.2.2.2∧tm 11=w11∧tm 12=vi x3∧tm 13=(pV b3 0)∧tm 35=vi a0.g.Terms∧tm 36=vi x3∧tm 42=w12∧tm 43=(vN x5)∧tm 44=(vJ i7)∧tm 54=w14∧tm 55=(vN x7)∧tm 56=(vJ i9)) (fun k8=>?_) ?_
      ·refine aI rfl (fun q24=>?_) (fun q24=>?_)
       ·replace e5:=ax q24 e5
        refine bq ?_
        obtain⟨d2,rfl⟩:=((s26.curS (s:=Sh.int) 8 rfl)).val
        refine ak 7 s26 rfl h91 rfl rfl (am rfl (ak 0 s26 rfl rfl rfl rfl (bP (s:=Sh.int) (us:=[vi x8.to]) (qs:=[(0,1,(vi x8.to))]) (xs:=[x8.to]) s26 Sh.G5 rfl rfl rfl (Els.cons (c:=[vi x8.to]) rfl Els.nil) rfl rfl fun w17 H20 s28=>?_)))
        obtain⟨x9,q25,e5⟩:=oB e5
        refine cn 9 s28 rfl Sh.G5 rfl rfl rfl rfl (s28.curS (s:=Sh.int) 0 rfl) pR (fun h=>h) (by decide) q25 fun w18 H21 s29=>?_
        obtain⟨d3,rfl⟩:=((s29.curS (s:=Sh.int) 9 rfl)).val
        refine aP (us':=[(vS d3 x9)]) 8 s29 rfl h91 rfl rfl rfl rfl rfl fun H22 s30=>ae ?_
        obtain rfl:=oJ e5
        exact k8 _ _ ⟨_,_,_,Gw.refl _ _,(s30.pick [2,3,4,5,6,7,8,9] rfl),h83,h84,h85,h86,h87,h88,h89,h90,h91,h92,h93,h94,h95,h96,h97,h98,hti3⟩
       replace e5:=bb q24 e5
       refine ar ?_
       obtain rfl:=oJ e5
       exact k8 _ _ ⟨_,_,_,Gw.refl _ _,(s26.pick [1,2,3,4,5,6,7,8] rfl),h83,h84,h85,h86,h87,h88,h89,h90,h91,h92,h93,h94,h95,h96,h97,h98,hti3⟩
      intro _ H19 i10
      obtain⟨Z10,V10,w16,g10,s27,h100,h101,h102,h103,h104,h105,h106,h107,h108,h109,h110,h111,h112,h113,h114,h115,h116⟩:=i10
      refine aF (bq (az h116 rfl (aa (v:=vi (Pu.W ((i9:Int)+1))) rfl (ae ?_))))
      obtain rfl:=oJ e4
      exact k7 _ _ ⟨(iv rfl (bE q21 (h65).bd)),_,_,_,(g9.trans g10),s27,h100,h101,h102,h103,h104,h105,h106,h107,h108,h109,h110,h111,h112,h113,h114,h115⟩
     obtain⟨hte3,Z11,V11,w19,g11,s31,h117,h118,h119,h120,h121,h122,h123,h124,h125,h126,h127,h128,h129,h130,h131,h132⟩:=jd
     refine af (ao hte3 h132 (ae (ah (bc rfl (Int.lt_irrefl _) (aR (aU (aU (bT (aF (bq (az h130 rfl (aa (v:=vi (Pu.W ((i7:Int)+1))) rfl (ae ?_)))))))))))))
     obtain rfl:=oJ e3
     exact k6 _ _ ⟨(iv rfl (bE q15 (h37).bd)),_,_,_,(g8.trans g11),s31,h117,h118,h119,h120,h121,h122,h123,h124,h125,h126,h127,h128,h129⟩
    obtain⟨hte2,Z12,V12,w20,g12,s32,h133,h134,h135,h136,h137,h138,h139,h140,h141,h142,h143,h144,h145⟩:=jd
    refine af (ao hte2 h145 (ae (ah (bc rfl (Int.lt_irrefl _) (aR (aU (aU (bT (ah (af ?_))))))))))
    obtain⟨d4,rfl⟩:=((s32.curS (s:=Sh.int) 7 rfl)).val
    refine ak 6 s32 rfl h141 rfl rfl (aD rfl ((s32.curS (s:=Sh.int) 7 rfl)).len (co rfl rfl (ae (aI rfl (fun q26=>?_) (fun q26=>?_)))))
    ·replace e2:=ax q26 e2
     refine af (aa h139 (bP (s:=Sh.int) (us:=[(vi (-1))]) (qs:=[(0,1,(vi (-1)))]) (xs:=[(-1)]) s32 Sh.G5 rfl rfl rfl (Els.cons (c:=[(vi (-1))]) rfl Els.nil) rfl rfl fun w21 H25 s33=>?_))
     obtain⟨x10,q27,e2⟩:=oB e2
     refine cn 6 s33 rfl Sh.G5 rfl rfl rfl rfl (s33.curS (s:=Sh.int) 0 rfl) pR (fun h=>h) (by decide) q27 fun w22 H26 s34=>aa (v:=w22) rfl (ae (aR (aU (bT (bq (az h143 rfl (aa (v:=vi (Pu.W (x3+1))) rfl (ae ?_))))))))
     obtain rfl:=oJ e2
     exact k5 _ _ ⟨(iv rfl (bU q6 q10)),_,_,_,_,(g6.trans (g7.trans g12)),(s34.pick [1,2,3,4,5,6] rfl),h133,h134,h135,h136,h137,h138,rfl,h142⟩
    replace e2:=bb q26 e2
    refine ar (af (aa h133 (ak 6 s32 rfl h141 rfl rfl ?_)))
    obtain⟨Z13,V13,g13,s35,h146⟩:=s32.frzS 7 rfl
    obtain⟨x11,q28,e2⟩:=oB e2
    obtain⟨Z14,V14,W2,g14,u2,c6,c7,-,c9,c8⟩:=Sat.call (l1:=[]) s35
    refine au (mc rfl (mc rfl m0)) (X.C7 nd.C7 (a0:=a0) c6 (hp1.mono ((g1.trans (g2.trans (g3.trans (g4.trans (g6.trans (g7.trans (g12.trans g13))))))).trans g14).z) (hp2.mono ((g1.trans (g2.trans (g3.trans (g4.trans (g6.trans (g7.trans (g12.trans g13))))))).trans g14).z) (hp3.mono ((g1.trans (g2.trans (g3.trans (g4.trans (g6.trans (g7.trans (g12.trans g13))))))).trans g14).z) ((((g1.trans (g2.trans (g3.trans (g4.trans (g6.trans (g7.trans (g12.trans g13))))))).trans g14).v.trans u2) _ _ hp4) (h146.mono g14.z) q28) fun w23 H27 i11=>?_
    obtain⟨_,rfl,s36⟩:=i11
    have s37:=c8 _ _ s36
    obtain⟨d5,rfl⟩:=((s37.curS (s:=Sh.int) 0 rfl)).val
    refine aP (us':=[(vS d5 x11)]) 7 s37 rfl h141 rfl rfl rfl rfl rfl fun H28 s38=>ae (af (aa h136 (o_mkfn (mc h141 m0) ?_)))
    obtain⟨Z15,V15,g15,s39,h147⟩:=s38.frzS 0 rfl
    obtain⟨x12,q29,e2⟩:=oB e2
    obtain⟨Z16,V16,W3,g16,u3,c10,c11,-,c13,c12⟩:=Sat.call (l1:=[pts b3 (.rw 0 [(vS d5 x11)])]) (l2:=[pts b1 (.rw 0 [vi 0,(.slice none 0 0),(.slice none 0 0)]),It.sl (Sh.ro sI1) w10 s14.1,pts b2 (.rw 0 [vi 0,w5,w6]),It.sl Sh.int w5 s10.2.1,It.sl (Sh.ro sI1) w6 s10.2.2.1,It.sl Sh.int w11 s14.2]) (s39.pick [6,0,1,2,3,4,5] rfl)
    refine au (mc rfl (mc rfl m0)) (X.F7 nd.F7 (a1c0:=x11) c10 (c11 1 _ (Sh.ro sI1) _ _ rfl) (h147.mono (g16.z.trans c10.zv)) q29) fun _ H29 i12=>?_
    obtain⟨rfl,s40⟩:=i12
    have s41:=c12 _ _ s40
    refine aa (v:=vi x12) rfl (ae (ap (P:=fun tm=>tm 0=(pV pr1 0)∧tm 2=vi a2∧tm 6=(pV b1 0)∧tm 8=w10∧tm 9=(pV b2 0)∧tm 10=vi s10.2.2.2∧tm 11=w11∧tm 13=(pV b3 0)∧tm 18=vi x12∧tm 35=vi a0.g.Terms∧tm 36=vi x3∧True) ⟨h133,h134,h135,h136,h137,h138,h139,h141,rfl,h142,h143,trivial⟩ ?_))
    intro _ i13
    obtain⟨h148,h149,h150,h151,h152,h153,h154,h155,h156,h157,h158,-⟩:=i13
    refine ah (af (aa h156 (ao rfl rfl (ae ?_))))
    obtain⟨y7,e6,e2⟩:=oB e2
    refine bf (I:=fun tm H=>∃(Z17 V17:PH) (w24:Value),Gw Z16 V16 Z17 V17∧Sat Z17 V17 H [pts b1 (.rw 0 [vi 0,(.slice none 0 0),(.slice none 0 0)]),It.sl (Sh.ro sI1) w24 y7.1,pts b2 (.rw 0 [vi 0,w5,w6]),It.sl Sh.int w5 s10.2.1,It.sl (Sh.ro sI1) w6 s10.2.2.1,It.sl Sh.int w11 s14.2]∧tm 0=(pV pr1 0)∧tm 2=vi a2∧tm 6=(pV b1 0)∧tm 8=w24∧tm 9=(pV b2 0)∧tm 10=vi s10.2.2.2∧tm 11=w11∧tm 18=vi y7.2∧tm 35=vi a0.g.Terms∧tm 36=vi x3) (fun k9=>?_) ?_
    ·refine aI rfl (fun q30=>?_) (fun q30=>?_)
     ·replace e6:=ax q30 e6
      refine af (aa h151 (aD rfl ((s41.curS (s:=Sh.ro sI1) 2 rfl)).len (aa (v:=vN s14.1) rfl (ae (bq (aa h151 (ak 0 s41 rfl h155 rfl rfl (bP (s:=Sh.ro sI1) (us:=[(vS d5 x11)]) (qs:=[(0,1,(vS d5 x11))]) (xs:=[x11]) s41 (Sh.ro_lt _) rfl rfl rfl (Els.cons (c:=[(vS d5 x11)]) (cR (h147.mono g16.z)) Els.nil) rfl rfl fun w25 H31 s43=>?_))))))))
      obtain⟨Z18,V18,g18,s44,h169⟩:=s43.frzS 0 rfl
      replace h169:=h169.of_ro
      obtain⟨x13,q31,e6⟩:=oB e6
      refine cn 2 s44 rfl (Sh.ro_lt _) rfl rfl rfl rfl h169 s44.z (fun h=>h) (by decide) q31 fun w26 H32 s45=>aa (v:=w26) rfl (ae ?_)
      obtain rfl:=oJ e6
      exact k9 _ _ ⟨_,_,_,g18,(s45.pick [1,2,3,4,5,6] rfl),h148,h149,h150,rfl,h152,h153,h154,rfl,h157,h158⟩
     replace e6:=bb q30 e6
     refine ar ?_
     obtain rfl:=oJ e6
     exact k9 _ _ ⟨_,_,_,Gw.refl _ _,(s41.pick [1,2,3,4,5,6] rfl),h148,h149,h150,h151,h152,h153,h154,h156,h157,h158⟩
    intro _ H30 i14
    obtain⟨Z17,V17,w24,g17,s42,h159,h160,h161,h162,h163,h164,h165,h166,h167,h168⟩:=i14
    refine bq (aa h165 (aa h166 (bP (s:=Sh.int) (us:=[vi y7.2]) (qs:=[(0,1,(vi y7.2))]) (xs:=[y7.2]) s42 Sh.G5 rfl rfl rfl (Els.cons (c:=[vi y7.2]) rfl Els.nil) rfl rfl fun w27 H33 s46=>?_)))
    obtain⟨x14,q32,e2⟩:=oB e2
    refine cn 6 s46 rfl Sh.G5 rfl rfl rfl rfl (s46.curS (s:=Sh.int) 0 rfl) pR (fun h=>h) (by decide) q32 fun w28 H34 s47=>aa (v:=w28) rfl (ae (aF (bq (az h168 rfl (aa (v:=vi (Pu.W (x3+1))) rfl (ae ?_))))))
    obtain rfl:=oJ e2
    exact k5 _ _ ⟨(iv rfl (bU q6 q10)),_,_,_,_,(g6.trans (g7.trans (g12.trans (g13.trans (g14.trans (g15.trans (g16.trans g17))))))),(s47.pick [1,2,3,4,5,6] rfl),h159,h160,h161,h162,h163,h164,rfl,h167⟩
   obtain⟨hte1,Z19,V19,w29,w30,g19,s48,h170,h171,h172,h173,h174,h175,h176,h177⟩:=jd
   refine af (ao hte1 h177 (ae (ah (bc rfl (bA _) (aR (aU (aU (bT (af (am h174 ?_))))))))))
   obtain⟨d6,rfl⟩:=((s48.curS (s:=Sh.int) 3 rfl)).val
   obtain⟨d7,rfl⟩:=((s48.curS (s:=Sh.ro sI1) 4 rfl)).val
   refine ak 2 s48 rfl rfl rfl rfl (aa h176 ?_)
   obtain⟨Z20,V20,g20,s49,h178⟩:=s48.frzS 5 rfl
   obtain⟨d8,rfl⟩:=(h178).val
   refine bP (s:=Sh.ro sI1) (us:=[(vS d8 y3.2)]) (qs:=[(0,1,(vS d8 y3.2))]) (xs:=[y3.2]) s49 (Sh.ro_lt _) rfl rfl rfl (Els.cons (c:=[(vS d8 y3.2)]) (cR h178) Els.nil) rfl rfl fun w31 H36 s50=>?_
   obtain⟨Z21,V21,g21,s51,h179⟩:=s50.frzS 0 rfl
   replace h179:=h179.of_ro
   obtain⟨x15,q33,e1⟩:=oB e1
   refine cn 4 s51 rfl (Sh.ro_lt _) rfl rfl rfl rfl h179 s51.z (fun h=>h) (by decide) q33 fun w32 H37 s52=>am h174 ?_
   obtain⟨d9,rfl⟩:=((s52.curS (s:=Sh.ro sI1) 4 rfl)).val
   refine aP (us':=[vi 0,(vS d6 s10.2.1),(vS d9 x15)]) 2 s52 rfl rfl rfl rfl rfl rfl rfl fun H38 s53=>ae (ah (af (aa h173 (aa h175 ?_))))
   obtain⟨x16,q34,e1⟩:=oB e1
   refine aJ (v:=w29) rfl rfl (s53.curS (s:=Sh.ro sI1) 1 rfl) rfl q34 fun p5 q35=>jR 1 s53 rfl rfl q35 q34 fun Z22 V22 w33 g22 s54 h180=>aa h171 ?_
   obtain⟨x17,q36,e1⟩:=oB e1
   obtain⟨Z23,V23,W4,g23,u4,c14,c15,-,c17,c16⟩:=Sat.call (l1:=[]) s54
   refine au (mc rfl (mc rfl m0)) (X.C4 nd.C4 c14 (h180.mono (g23.z.trans c14.zv)) q36) fun _ H39 i15=>?_
   obtain⟨rfl,s55⟩:=i15
   have s56:=c16 _ _ s55
   refine ae (ap (P:=fun tm=>tm 0=(pV pr1 0)∧tm 2=vi a2∧tm 6=(pV b1 0)∧tm 8=w29∧tm 9=(pV b2 0)∧tm 10=vi s10.2.2.2∧tm 107=(.bool x17)∧True) ⟨h170,h171,h172,h173,h174,h175,rfl,trivial⟩ ?_)
   intro _ i16
   obtain⟨h181,h182,h183,h184,h185,h186,h187,-⟩:=i16
   obtain⟨y8,e7,e1⟩:=oB e1
   refine bf (I:=fun tm H=>∃(Z24 V24:PH) (w34:Value),Gw Z23 V23 Z24 V24∧Sat Z24 V24 H [pts b1 (.rw 0 [vi 0,(.slice none 0 0),(.slice none 0 0)]),It.sl (Sh.ro sI1) w29 y3.1,pts b2 (.rw 0 [vi 0,w34,(vS d9 x15)]),It.sl Sh.int w34 y8,It.sl (Sh.ro sI1) (vS d9 x15) x15]∧tm 0=(pV pr1 0)∧tm 2=vi a2∧tm 6=(pV b1 0)∧tm 8=w29∧tm 9=(pV b2 0)∧tm 10=vi s10.2.2.2) (fun k10=>?_) ?_
   ·refine bx h187 (fun q37=>?_) (fun q37=>?_)
    ·replace e7:=ax q37 e7
     refine bq (am h185 (ak 2 s56 rfl rfl rfl rfl (bP (s:=Sh.int) (us:=[vi 0]) (qs:=[(0,1,(vi 0))]) (xs:=[0]) s56 Sh.G5 rfl rfl rfl (Els.cons (c:=[vi 0]) rfl Els.nil) rfl rfl fun w35 H41 s58=>?_)))
     obtain⟨x18,q38,e7⟩:=oB e7
     refine cn 4 s58 rfl Sh.G5 rfl rfl rfl rfl (s58.curS (s:=Sh.int) 0 rfl) pR (fun h=>h) (by decide) q38 fun w36 H42 s59=>am h185 ?_
     obtain⟨d10,rfl⟩:=((s59.curS (s:=Sh.int) 4 rfl)).val
     refine aP (us':=[vi 0,(vS d10 x18),(vS d9 x15)]) 3 s59 rfl rfl rfl rfl rfl rfl rfl fun H43 s60=>ae ?_
     obtain rfl:=oJ e7
     exact k10 _ _ ⟨_,_,_,Gw.refl _ _,(s60.pick [1,2,3,4,5] rfl),h181,h182,h183,h184,h185,h186⟩
    replace e7:=aS q37 e7
    refine bq (am h185 (ak 2 s56 rfl rfl rfl rfl (bP (s:=Sh.int) (us:=[(vi (-1))]) (qs:=[(0,1,(vi (-1)))]) (xs:=[(-1)]) s56 Sh.G5 rfl rfl rfl (Els.cons (c:=[(vi (-1))]) rfl Els.nil) rfl rfl fun w37 H44 s61=>?_)))
    obtain⟨x19,q39,e7⟩:=oB e7
    refine cn 4 s61 rfl Sh.G5 rfl rfl rfl rfl (s61.curS (s:=Sh.int) 0 rfl) pR (fun h=>h) (by decide) q39 fun w38 H45 s62=>am h185 ?_
    obtain⟨d11,rfl⟩:=((s62.curS (s:=Sh.int) 4 rfl)).val
    refine aP (us':=[vi 0,(vS d11 x19),(vS d9 x15)]) 3 s62 rfl rfl rfl rfl rfl rfl rfl fun H46 s63=>ae ?_
    obtain rfl:=oJ e7
    exact k10 _ _ ⟨_,_,_,Gw.refl _ _,(s63.pick [1,2,3,4,5] rfl),h181,h182,h183,h184,h185,h186⟩
   intro _ H40 i17
   obtain⟨Z24,V24,w34,g24,s57,h188,h189,h190,h191,h192,h193⟩:=i17
   refine af (aa h191 (aD rfl ((s57.curS (s:=Sh.ro sI1) 1 rfl)).len (cC rfl rfl (ae (aI rfl (fun q40=>?_) (fun q40=>?_))))))
   ·replace e1:=ax q40 e1
    refine af (bR (qs:=[]) rfl rfl (aP (us':=[vi 0,(.slice none 0 0),(.slice none 0 0)]) 0 s57 rfl h190 rfl rfl rfl rfl rfl fun H47 s64=>aa (v:=.bool false) rfl (ae (aL ?_))))
    have e8:=ci (k3 _ (sJ e1)) e
    obtain rfl:=oJ e8
    exact⟨.inr rfl,_,(ra2 (rac 0 s64 rfl h190 rfl rfl) (rat rfl)),_,_,rfl,((((s64.push (aW (s:=Sh.int))).push (aW (s:=Sh.ro sI1))).pick [1,0] rfl).weak (g1.trans (g2.trans (g3.trans (g4.trans (g19.trans (g20.trans (g21.trans (g22.trans (g23.trans g24))))))))) hs.zv)⟩
   replace e1:=bb q40 e1
   refine ar (aF (bq (aa h193 (az rfl rfl (aa (v:=vi (Pu.W (s10.2.2.2+1))) rfl (ae ?_))))))
   exact k1 _ _ _ (sJ e1) ⟨_,_,_,_,_,(g4.trans (g19.trans (g20.trans (g21.trans (g22.trans (g23.trans g24)))))),s57,h188,h189,h190,h191,h192,rfl⟩
  replace e1:=bb q5 e1
  refine aR (aU (aU (bT ?_)))
  exact k4 _ _ ⟨_,k2 _ (sJ e1),_,_,_,_,_,g4,s11,h8,h9,h10,h11,h12,h13⟩
 intro _ H9 i18
 obtain⟨s12,f1,Z5,V5,w7,w8,w9,g5,s13,h14,h15,h16,h17,h18,h19⟩:=i18
 replace e:=bD f1 e
 refine af ?_
 obtain⟨d12,rfl⟩:=((s13.curS (s:=Sh.int) 3 rfl)).val
 obtain⟨d13,rfl⟩:=((s13.curS (s:=Sh.ro sI1) 4 rfl)).val
 refine ak 2 s13 rfl h18 rfl rfl (aP (us':=[vi 0,(vS d12 s12.2.1),(vS d13 s12.2.2.1)]) 0 s13 rfl h16 rfl rfl rfl rfl rfl fun H48 s65=>aa (v:=.bool true) rfl (ae (aL ?_)))
 obtain rfl:=oJ e
 exact⟨.inr rfl,_,(ra2 (rac 0 s65 rfl h16 rfl rfl) (rat rfl)),_,_,rfl,((s65.pick [3,4] rfl).weak (g1.trans (g2.trans (g3.trans g5))) hs.zv)⟩
structure Nd.D8 (T:FuncId→Option AFunc):Prop where
 own:Has T I.D8 F.D8
theorem X.D8 (nd:Nd.D8 T){v1:Value}{v2:Value}{a0:Ty.J5}(hs:Sat Z V H [])(hp1:RdS Sh.int V v1 a0.Accept)(hp2:RdS sI1 V v2 a0.Next){r:Int}(e:P.D8 a0=some r):
 G T I.D8 [(.agg #[vi a0.Start,v1,v2])] H (fun rv H'=>rv=vi r∧Sat Z V H' []):=by
 unfold P.D8 at e
 refine bB nd.own (af ?_)
 obtain⟨d1,rfl⟩:=(hp1).val
 obtain⟨d2,rfl⟩:=(hp2).val
 refine cx hs rfl rfl fun b1 H1 s1=>aa (v:=vi 0) rfl (ae (ah (af (am rfl (ak 0 s1 rfl rfl rfl rfl (aD rfl (hp2).len (cC rfl rfl (ae (aI rfl (fun q1=>?_) (fun q1=>?_))))))))))
 ·replace e:=ax q1 e
  refine af (aa (v:=vi 2) rfl (ae (aL ?_)))
  obtain rfl:=oJ e
  exact⟨.inr rfl,_,(ar1 rfl),rfl,(s1.pick [] rfl)⟩
 replace e:=bb q1 e
 refine ar (ah (af (am rfl (ak 0 s1 rfl rfl rfl rfl (aD rfl (hp2).len (co rfl rfl (aa (v:=.bool (decide ((a0.Next.length:Int)=0))) rfl (cv 8 (I:=fun tm H=>tm 26= .bool ((decide ((a0.Next.length:Int)=0)) ||(decide ((a0.Accept.length:Int)≠(a0.Next.length:Int))))∧(∃(Z1 V1:PH),Gw Z V Z1 V1∧Sat Z1 V1 H [pts b1 (.rw 0 [vi a0.Start,(vS d1 a0.Accept),(vS d2 a0.Next)])]∧tm 1=(pV b1 0))) (fun k1=>?_) ?_))))))))
 ·rcases Bool.eq_false_or_eq_true (decide ((a0.Next.length:Int)=0)) with q2|q2
  ·refine aE rfl q2 (aE rfl q2 (aE rfl q2 (aE rfl q2 (aE rfl q2 (aE rfl q2 (aE rfl q2 (aY (a:=.bool true) rfl q2 rfl ?_)))))))
   exact k1 _ _ ⟨gf rfl (by first|(rw [q2];first|done|rfl)|simp [q2]),_,_,Gw.refl _ _,s1,rfl⟩
  refine aC rfl q2 (am rfl (aC rfl q2 (ak 0 s1 rfl rfl rfl rfl (aC rfl q2 (aD rfl (hp1).len (aC rfl q2 (am rfl (aC rfl q2 (ak 0 s1 rfl rfl rfl rfl (aC rfl q2 (aD rfl (hp2).len (aC rfl q2 (cQ rfl rfl (aX (b:=.bool (decide ((a0.Accept.length:Int)≠(a0.Next.length:Int)))) rfl q2 rfl ?_))))))))))))))
  exact k1 _ _ ⟨gf rfl (by first|(rw [q2];first|done|rfl)|simp [q2]),_,_,Gw.refl _ _,s1,rfl⟩
 intro _ H2 i1
 obtain⟨h2,Z1,V1,g1,s2,h1⟩:=i1
 refine ae (bx h2 (fun q3=>?_) (fun q3=>?_))
 ·replace e:=ax q3 e
  refine af (aa (v:=vi 3) rfl (ae (aL ?_)))
  obtain rfl:=oJ e
  exact⟨.inr rfl,_,(ar1 rfl),rfl,((s2.pick [] rfl).weak g1 hs.zv)⟩
 replace e:=aS q3 e
 refine ar (af (am h1 (ak 0 s2 rfl rfl rfl rfl ?_)))
 obtain⟨x1,q4,e⟩:=oB e
 refine aJ (v:=vS d2 a0.Next) rfl rfl (hp2.mono g1.v) rfl q4 fun p1 q5=>dh rfl (hp2.mono g1.v) s2.v q5 q4 fun w1 h3=>aD rfl (h3).len (aa (v:=vN x1) rfl (ae (ah (af (aa (v:=vN x1) rfl (cC rfl rfl (ae (aI rfl (fun q6=>?_) (fun q6=>?_)))))))))
 ·replace e:=ax q6 e
  refine af (aa (v:=vi 2) rfl (ae (aL ?_)))
  obtain rfl:=oJ e
  exact⟨.inr rfl,_,(ar1 rfl),rfl,((s2.pick [] rfl).weak g1 hs.zv)⟩
 replace e:=bb q6 e
 refine ar (ah (af (am h1 (ak 0 s2 rfl rfl rfl rfl (aD rfl ((hp2.mono g1.v)).len (aa (v:=vi 0) rfl (ae (ap (P:=fun tm=>tm 1=(pV b1 0)∧tm 3=(vN x1)∧tm 35=(vS d2 a0.Next)∧tm 36=(vN a0.Next)∧tm 37=vi 0∧True) ⟨h1,rfl,rfl,rfl,rfl,trivial⟩ ?_))))))))
 intro _ i2
 obtain⟨h4,h5,h6,h7,h8,-⟩:=i2
 obtain⟨y1,q9,e⟩:=oB e
 refine bf (I:=fun tm H=>∃(s5:Unit),y1= .out s5∧(∃(Z3 V3:PH),Gw Z1 V1 Z3 V3∧Sat Z3 V3 H [pts b1 (.rw 0 [vi a0.Start,(vS d1 a0.Accept),(vS d2 a0.Next)])]∧tm 1=(pV b1 0)∧tm 3=(vN x1)∧tm 35=(vS d2 a0.Next)∧tm 36=(vN a0.Next))) (fun k5=>?_) ?_
 ·refine ay (cY (xs:=a0.Next) (fun(i3:Nat) (s3:Unit) tm H=>tm 37=vi i3∧∃(Z2 V2:PH),Gw Z1 V1 Z2 V2∧Sat Z2 V2 H [pts b1 (.rw 0 [vi a0.Start,(vS d1 a0.Accept),(vS d2 a0.Next)])]∧tm 1=(pV b1 0)∧tm 3=(vN x1)∧tm 35=(vS d2 a0.Next)∧tm 36=(vN a0.Next)) (fun i3 x2 s3 y2 tm H4 q7 q8 j1 e1 k2 k3 k4=>?_) (fun s3 tm H3 jf jd=>?_) q9 ⟨h8,_,_,Gw.refl _ _,s2,h4,h5,h6,h7⟩)
  ·obtain⟨hti0,Z2,V2,g2,s4,h9,h10,h11,h12⟩:=j1
   unfold P.D8.b0 at e1
   refine af (ao hti0 h12 (ae (ah (be rfl (Int.ofNat_lt.2 q8) (ar (ah (ay (af (aJ (v:=vS d2 a0.Next) h11 hti0 (hp2.mono (g1.trans g2).v) rfl (Pu.ix_nat.trans q7) fun p2 q10=>dh rfl (hp2.mono (g1.trans g2).v) s4.v q10 (Pu.ix_nat.trans q7) fun w2 h17=>aa (v:=w2) rfl (ae (af (aa (v:=w2) rfl (aD rfl (h17).len (aa h10 (cQ rfl rfl (aa (v:=.bool (decide ((x2.length:Int)≠(x1.length:Int)))) rfl (cv 3 (I:=fun tm H=>tm 48= .bool ((decide ((x2.length:Int)≠(x1.length:Int))) ||(decide ((x1.length:Int)=0)))∧(∃(Z4 V4:PH),Gw Z2 V2 Z4 V4∧Sat Z4 V4 H [pts b1 (.rw 0 [vi a0.Start,(vS d1 a0.Accept),(vS d2 a0.Next)])]∧tm 1=(pV b1 0)∧tm 3=(vN x1)∧tm 35=(vS d2 a0.Next)∧tm 36=(vN a0.Next)∧tm 37=(vJ i3))) (fun k6=>?_) ?_)))))))))))))))))
   ·rcases Bool.eq_false_or_eq_true (decide ((x2.length:Int)≠(x1.length:Int))) with q11|q11
    ·refine aE rfl q11 (aE rfl q11 (aY (a:=.bool true) rfl q11 rfl ?_))
     exact k6 _ _ ⟨gf rfl (by first|(rw [q11];first|done|rfl)|simp [q11]),_,_,Gw.refl _ _,s4,h9,h10,h11,h12,hti0⟩
    refine aC rfl q11 (aa h10 (aC rfl q11 (co rfl rfl (aX (b:=.bool (decide ((x1.length:Int)=0))) rfl q11 rfl ?_))))
    exact k6 _ _ ⟨gf rfl (by first|(rw [q11];first|done|rfl)|simp [q11]),_,_,Gw.refl _ _,s4,h9,h10,h11,h12,hti0⟩
   intro _ H6 i4
   obtain⟨h23,Z4,V4,g4,s7,h18,h19,h20,h21,h22⟩:=i4
   refine ae (bx h23 (fun q12=>?_) (fun q12=>?_))
   ·replace e1:=ax q12 e1
    refine af (aa (v:=vi 3) rfl (ae (aL ?_)))
    have e2:=ci (k4 _ (sJ e1)) e
    obtain rfl:=oJ e2
    exact⟨.inr rfl,_,(ar1 rfl),rfl,((s7.pick [] rfl).weak (g1.trans (g2.trans g4)) hs.zv)⟩
   replace e1:=aS q12 e1
   refine ar (aF (bq (az h22 rfl (aa (v:=vi (Pu.W ((i3:Int)+1))) rfl (ae ?_)))))
   exact k2 _ _ _ (sJ e1) ⟨(iv rfl (bE q8 ((hp2.mono g1.v)).bd)),_,_,(g2.trans g4),s7,h18,h19,h20,h21⟩
  ·obtain⟨hte0,Z5,V5,g5,s8,h24,h25,h26,h27⟩:=jd
   refine af (ao hte0 h27 (ae (ah (bc rfl (Int.lt_irrefl _) (aR (aU (aU (bT ?_))))))))
   exact k5 _ _ ⟨_,jf,_,_,g5,s8,h24,h25,h26,h27⟩
 intro _ H5 i5
 obtain⟨s5,f1,Z3,V3,g3,s6,h13,h14,h15,h16⟩:=i5
 replace e:=bD f1 e
 refine ah (af (am h13 (ak 0 s6 rfl rfl rfl rfl (ao rfl rfl (aa (v:=.bool (decide (a0.Start<0))) rfl (cv 7 (I:=fun tm H=>tm 60= .bool ((decide (a0.Start<0)) ||(decide ((a0.Next.length:Int)≤a0.Start)))∧(∃(Z6 V6:PH),Gw Z3 V3 Z6 V6∧Sat Z6 V6 H [pts b1 (.rw 0 [vi a0.Start,(vS d1 a0.Accept),(vS d2 a0.Next)])]∧tm 1=(pV b1 0))) (fun k7=>?_) ?_))))))
 ·rcases Bool.eq_false_or_eq_true (decide (a0.Start<0)) with q13|q13
  ·refine aE rfl q13 (aE rfl q13 (aE rfl q13 (aE rfl q13 (aE rfl q13 (aE rfl q13 (aY (a:=.bool true) rfl q13 rfl ?_))))))
   exact k7 _ _ ⟨gf rfl (by first|(rw [q13];first|done|rfl)|simp [q13]),_,_,Gw.refl _ _,s6,h13⟩
  refine aC rfl q13 (am h13 (aC rfl q13 (ak 0 s6 rfl rfl rfl rfl (aC rfl q13 (am h13 (aC rfl q13 (ak 0 s6 rfl rfl rfl rfl (aC rfl q13 (aD rfl ((hp2.mono (g1.trans g3).v)).len (aC rfl q13 (cd rfl rfl (aX (b:=.bool (decide ((a0.Next.length:Int)≤a0.Start))) rfl q13 rfl ?_))))))))))))
  exact k7 _ _ ⟨gf rfl (by first|(rw [q13];first|done|rfl)|simp [q13]),_,_,Gw.refl _ _,s6,h13⟩
 intro _ H8 i6
 obtain⟨h29,Z6,V6,g6,s9,h28⟩:=i6
 refine ae (bx h29 (fun q14=>?_) (fun q14=>?_))
 ·replace e:=ax q14 e
  refine af (aa (v:=vi 1) rfl (ae (aL ?_)))
  obtain rfl:=oJ e
  exact⟨.inr rfl,_,(ar1 rfl),rfl,((s9.pick [] rfl).weak (g1.trans (g3.trans g6)) hs.zv)⟩
 replace e:=aS q14 e
 refine ar (ah (af (am h28 (ak 0 s9 rfl rfl rfl rfl (aD rfl ((hp2.mono (g1.trans (g3.trans g6)).v)).len (aa (v:=vi 0) rfl (ae ?_)))))))
 obtain⟨y3,q17,e⟩:=oB e
 refine bf (I:=fun tm H=>∃(s12:Unit),y3= .out s12∧(∃(Z8 V8:PH),Gw Z6 V6 Z8 V8∧Sat Z8 V8 H [pts b1 (.rw 0 [vi a0.Start,(vS d1 a0.Accept),(vS d2 a0.Next)])]∧tm 1=(pV b1 0)∧tm 62=(vS d2 a0.Next)∧tm 63=(vN a0.Next))) (fun k11=>?_) ?_
 ·refine ay (cY (xs:=a0.Next) (fun(i7:Nat) (s10:Unit) tm H=>tm 64=vi i7∧∃(Z7 V7:PH),Gw Z6 V6 Z7 V7∧Sat Z7 V7 H [pts b1 (.rw 0 [vi a0.Start,(vS d1 a0.Accept),(vS d2 a0.Next)])]∧tm 1=(pV b1 0)∧tm 62=(vS d2 a0.Next)∧tm 63=(vN a0.Next)) (fun i7 x3 s10 y4 tm H10 q15 q16 j2 e3 k8 k9 k10=>?_) (fun s10 tm H9 jf jd=>?_) q17 ⟨rfl,_,_,Gw.refl _ _,s9,h28,rfl,rfl⟩)
  ·obtain⟨hti1,Z7,V7,g7,s11,h30,h31,h32⟩:=j2
   unfold P.D8.b1 at e3
   refine af (ao hti1 h32 (ae (ah (be rfl (Int.ofNat_lt.2 q16) (ar (ah (ay (af (aa hti1 (aJ (v:=vS d2 a0.Next) h31 hti1 (hp2.mono (g1.trans (g3.trans (g6.trans g7))).v) rfl (Pu.ix_nat.trans q15) fun p3 q18=>dh rfl (hp2.mono (g1.trans (g3.trans (g6.trans g7))).v) s11.v q18 (Pu.ix_nat.trans q15) fun w3 h36=>aa (v:=vJ i7) rfl (aa (v:=w3) rfl (ae (ah (af (am h30 (ak 0 s11 rfl rfl rfl rfl (aa (v:=vJ i7) rfl ?_)))))))))))))))))
   obtain⟨x4,q19,e3⟩:=oB e3
   refine aJ (v:=vS d1 a0.Accept) rfl rfl (hp1.mono (g1.trans (g3.trans (g6.trans g7))).v) rfl q19 fun p4 q20=>cj rfl (hp1.mono (g1.trans (g3.trans (g6.trans g7))).v) s11.v q20 q19 (ao rfl rfl (ae (ap (P:=fun tm=>tm 1=(pV b1 0)∧tm 7=w3∧tm 62=(vS d2 a0.Next)∧tm 63=(vN a0.Next)∧tm 64=(vJ i7)∧tm 74=(.bool (decide (x4<(-1))))∧True) ⟨h30,rfl,h31,h32,hti1,rfl,trivial⟩ ?_)))
   intro _ i8
   obtain⟨h37,h38,h39,h40,h41,h42,-⟩:=i8
   refine aI h42 (fun q21=>?_) (fun q21=>?_)
   ·replace e3:=ax q21 e3
    refine af (aa (v:=vi 1) rfl (ae (aL ?_)))
    have e4:=ci (k10 _ (sJ e3)) e
    obtain rfl:=oJ e4
    exact⟨.inr rfl,_,(ar1 rfl),rfl,((s11.pick [] rfl).weak (g1.trans (g3.trans (g6.trans g7))) hs.zv)⟩
   replace e3:=bb q21 e3
   refine ar (af (aa h38 (aD rfl (h36).len (aa (v:=vi 0) rfl (ae ?_)))))
   obtain⟨y5,q24,e3⟩:=oB e3
   refine bf (I:=fun tm H=>∃(s16:Unit),y5= .out s16∧(∃(Z10 V10:PH),Gw Z7 V7 Z10 V10∧Sat Z10 V10 H [pts b1 (.rw 0 [vi a0.Start,(vS d1 a0.Accept),(vS d2 a0.Next)])]∧tm 1=(pV b1 0)∧tm 62=(vS d2 a0.Next)∧tm 63=(vN a0.Next)∧tm 64=(vJ i7)∧tm 75=w3∧tm 76=(vN x3))) (fun k15=>?_) ?_
   ·refine ay (cY (xs:=x3) (fun(i9:Nat) (s14:Unit) tm H=>tm 77=vi i9∧∃(Z9 V9:PH),Gw Z7 V7 Z9 V9∧Sat Z9 V9 H [pts b1 (.rw 0 [vi a0.Start,(vS d1 a0.Accept),(vS d2 a0.Next)])]∧tm 1=(pV b1 0)∧tm 62=(vS d2 a0.Next)∧tm 63=(vN a0.Next)∧tm 64=(vJ i7)∧tm 75=w3∧tm 76=(vN x3)) (fun i9 x5 s14 y6 tm H13 q22 q23 j3 e5 k12 k13 k14=>?_) (fun s14 tm H12 jf jd=>?_) q24 ⟨rfl,_,_,Gw.refl _ _,s11,h37,h39,h40,h41,rfl,rfl⟩)
    ·obtain⟨hti2,Z9,V9,g9,s15,h43,h44,h45,h46,h47,h48⟩:=j3
     unfold P.D8.b2 at e5
     refine af (ao hti2 h48 (ae (ah (be rfl (Int.ofNat_lt.2 q23) (ar (ah (ay (af (aJ (v:=w3) h47 hti2 (h36.mono g9.v) rfl (Pu.ix_nat.trans q22) fun p5 q25=>cj rfl (h36.mono g9.v) s15.v q25 (Pu.ix_nat.trans q22) (aa (v:=vi x5) rfl (ae (af (aa (v:=vi x5) rfl (ao rfl rfl (aa (v:=.bool (decide (x5<(-1)))) rfl (cv 6 (I:=fun tm H=>tm 89= .bool ((decide (x5<(-1))) ||(decide ((a0.Next.length:Int)≤x5)))∧(∃(Z11 V11:PH),Gw Z9 V9 Z11 V11∧Sat Z11 V11 H [pts b1 (.rw 0 [vi a0.Start,(vS d1 a0.Accept),(vS d2 a0.Next)])]∧tm 1=(pV b1 0)∧tm 62=(vS d2 a0.Next)∧tm 63=(vN a0.Next)∧tm 64=(vJ i7)∧tm 75=w3∧tm 76=(vN x3)∧tm 77=(vJ i9))) (fun k16=>?_) ?_))))))))))))))))
     ·rcases Bool.eq_false_or_eq_true (decide (x5<(-1))) with q26|q26
      ·refine aE rfl q26 (aE rfl q26 (aE rfl q26 (aE rfl q26 (aE rfl q26 (aY (a:=.bool true) rfl q26 rfl ?_)))))
       exact k16 _ _ ⟨gf rfl (by first|(rw [q26];first|done|rfl)|simp [q26]),_,_,Gw.refl _ _,s15,h43,h44,h45,h46,h47,h48,hti2⟩
      refine aC rfl q26 (aa (v:=vi x5) rfl (aC rfl q26 (am h43 (aC rfl q26 (ak 0 s15 rfl rfl rfl rfl (aC rfl q26 (aD rfl ((hp2.mono (g1.trans (g3.trans (g6.trans (g7.trans g9)))).v)).len (aC rfl q26 (cd rfl rfl (aX (b:=.bool (decide ((a0.Next.length:Int)≤x5))) rfl q26 rfl ?_))))))))))
      exact k16 _ _ ⟨gf rfl (by first|(rw [q26];first|done|rfl)|simp [q26]),_,_,Gw.refl _ _,s15,h43,h44,h45,h46,h47,h48,hti2⟩
     intro _ H15 i10
     obtain⟨h62,Z11,V11,g11,s18,h55,h56,h57,h58,h59,h60,h61⟩:=i10
     refine ae (bx h62 (fun q27=>?_) (fun q27=>?_))
     ·replace e5:=ax q27 e5
      refine af (aa (v:=vi 1) rfl (ae (aL ?_)))
      have e6:=ci (k14 _ (sJ e5)) e3
      have e7:=ci (k10 _ (sJ e6)) e
      obtain rfl:=oJ e7
      exact⟨.inr rfl,_,(ar1 rfl),rfl,((s18.pick [] rfl).weak (g1.trans (g3.trans (g6.trans (g7.trans (g9.trans g11))))) hs.zv)⟩
     replace e5:=aS q27 e5
     refine ar (aF (bq (az h61 rfl (aa (v:=vi (Pu.W ((i9:Int)+1))) rfl (ae ?_)))))
     exact k12 _ _ _ (sJ e5) ⟨(iv rfl (bE q23 (h36).bd)),_,_,(g9.trans g11),s18,h55,h56,h57,h58,h59,h60⟩
    ·obtain⟨hte2,Z12,V12,g12,s19,h63,h64,h65,h66,h67,h68⟩:=jd
     refine af (ao hte2 h68 (ae (ah (bc rfl (Int.lt_irrefl _) (aR (aU (aU (bT ?_))))))))
     exact k15 _ _ ⟨_,jf,_,_,g12,s19,h63,h64,h65,h66,h67,h68⟩
   intro _ H14 i11
   obtain⟨s16,f2,Z10,V10,g10,s17,h49,h50,h51,h52,h53,h54⟩:=i11
   replace e3:=bD f2 e3
   refine aF (bq (az h52 rfl (aa (v:=vi (Pu.W ((i7:Int)+1))) rfl (ae ?_))))
   exact k8 _ _ _ (sJ e3) ⟨(iv rfl (bE q16 ((hp2.mono (g1.trans (g3.trans g6)).v)).bd)),_,_,(g7.trans g10),s17,h49,h50,h51⟩
  ·obtain⟨hte1,Z13,V13,g13,s20,h69,h70,h71⟩:=jd
   refine af (ao hte1 h71 (ae (ah (bc rfl (Int.lt_irrefl _) (aR (aU (aU (bT ?_))))))))
   exact k11 _ _ ⟨_,jf,_,_,g13,s20,h69,h70,h71⟩
 intro _ H11 i12
 obtain⟨s12,f3,Z8,V8,g8,s13,h33,h34,h35⟩:=i12
 replace e:=bD f3 e
 refine af (aa (v:=vi 0) rfl (ae (aL ?_)))
 obtain rfl:=oJ e
 exact⟨.inr rfl,_,(ar1 rfl),rfl,((s13.pick [] rfl).weak (g1.trans (g3.trans (g6.trans g8))) hs.zv)⟩
structure Nd.F9 (T:FuncId→Option AFunc):Prop where
 own:Has T I.F9 F.F9
theorem X.F9 (nd:Nd.F9 T){a0:Int}{a1:Int}(hs:Sat Z V H []){r:(Int×Int)}(e:P.F9 a0 a1=some r):
 G T I.F9 [(.int .u64 a0),(.int .u64 a1)] H (fun rv H'=>rv=(.tuple #[(.int .u64 r.1),(.int .u64 r.2)])∧Sat Z V H' []):=by
 unfold P.F9 at e
 refine bB nd.own (af (aa (v:=.int .u64 0) rfl (aa (v:=.int .u64 0) rfl (ae (af (aa (v:=.int .u64 a0) rfl (jc rfl rfl (aa (v:=.int .u64 (Pu.band .u64 a0 4294967295)) rfl (ae (af (aa (v:=.int .u64 a0) rfl ?_)))))))))))
 obtain⟨x1,q1,e⟩:=oB e
 refine fo rfl rfl q1 (aa (v:=.int .u64 x1) rfl (ae (af (aa (v:=.int .u64 a1) rfl (jc rfl rfl (aa (v:=.int .u64 (Pu.band .u64 a1 4294967295)) rfl (ae (ap (P:=fun tm=>tm 0=(.int .u64 a0)∧tm 1=(.int .u64 a1)∧tm 6=(.int .u64 (Pu.band .u64 a0 4294967295))∧tm 7=(.int .u64 x1)∧tm 8=(.int .u64 (Pu.band .u64 a1 4294967295))∧True) ⟨rfl,rfl,rfl,rfl,rfl,trivial⟩ ?_))))))))
 intro _ i1
 obtain⟨h1,h2,h3,h4,h5,-⟩:=i1
 refine af (aa h2 ?_)
 obtain⟨x2,q2,e⟩:=oB e
 refine fo rfl rfl q2 (aa (v:=.int .u64 x2) rfl (ae (af (aa h3 (aa h5 (dO rfl rfl (aa (v:=.int .u64 (IntKind.u64.wrap ((Pu.band .u64 a0 4294967295)*(Pu.band .u64 a1 4294967295)))) rfl (ae (af (aa h4 (aa h5 (dO rfl rfl (aa (v:=.int .u64 (IntKind.u64.wrap ((Pu.band .u64 a0 4294967295)*(Pu.band .u64 a1 4294967295)))) rfl ?_)))))))))))))
 obtain⟨x3,q3,e⟩:=oB e
 refine fo rfl rfl q3 (az rfl rfl (aa (v:=.int .u64 (IntKind.u64.wrap ((IntKind.u64.wrap (x1*(Pu.band .u64 a1 4294967295)))+x3))) rfl (ae (ap (P:=fun tm=>tm 0=(.int .u64 a0)∧tm 1=(.int .u64 a1)∧tm 6=(.int .u64 (Pu.band .u64 a0 4294967295))∧tm 7=(.int .u64 x1)∧tm 9=(.int .u64 x2)∧tm 11=(.int .u64 (IntKind.u64.wrap ((IntKind.u64.wrap (x1*(Pu.band .u64 a1 4294967295)))+x3)))∧True) ⟨h1,h2,h3,h4,rfl,rfl,trivial⟩ ?_))))
 intro _ i2
 obtain⟨h6,h7,h8,h9,h10,h11,-⟩:=i2
 refine af (aa h11 (jc rfl rfl (aa (v:=.int .u64 (Pu.band .u64 (IntKind.u64.wrap ((IntKind.u64.wrap (x1*(Pu.band .u64 a1 4294967295)))+x3)) 4294967295)) rfl (ae (af (aa h11 ?_))))))
 obtain⟨x4,q4,e⟩:=oB e
 refine fo rfl rfl q4 (aa (v:=.int .u64 x4) rfl (ae (af (aa (v:=.int .u64 (Pu.band .u64 (IntKind.u64.wrap ((IntKind.u64.wrap (x1*(Pu.band .u64 a1 4294967295)))+x3)) 4294967295)) rfl (aa h8 (aa h10 (dO rfl rfl (az rfl rfl (aa (v:=.int .u64 (IntKind.u64.wrap ((Pu.band .u64 (IntKind.u64.wrap ((IntKind.u64.wrap (x1*(Pu.band .u64 a1 4294967295)))+x3)) 4294967295)+(IntKind.u64.wrap ((Pu.band .u64 a0 4294967295)*x2))))) rfl (ae (ap (P:=fun tm=>tm 0=(.int .u64 a0)∧tm 1=(.int .u64 a1)∧tm 7=(.int .u64 x1)∧tm 9=(.int .u64 x2)∧tm 12=(.int .u64 (IntKind.u64.wrap ((Pu.band .u64 (IntKind.u64.wrap ((IntKind.u64.wrap (x1*(Pu.band .u64 a1 4294967295)))+x3)) 4294967295)+(IntKind.u64.wrap ((Pu.band .u64 a0 4294967295)*x2)))))∧tm 13=(.int .u64 x4)∧True) ⟨h6,h7,h9,h10,rfl,rfl,trivial⟩ ?_)))))))))))
 intro _ i3
 obtain⟨h12,h13,h14,h15,h16,h17,-⟩:=i3
 refine af (aa h14 (aa h15 (dO rfl rfl (aa h17 (az rfl rfl (aa h16 ?_))))))
 obtain⟨x5,q5,e⟩:=oB e
 refine fo rfl rfl q5 (az rfl rfl (aa (v:=.int .u64 (IntKind.u64.wrap ((IntKind.u64.wrap ((IntKind.u64.wrap (x1*x2))+x4))+x5))) rfl (ae (af (aa h12 (aa h13 (dO rfl rfl (aa (v:=.int .u64 (IntKind.u64.wrap (a0*a1))) rfl (ae (ap (P:=fun tm=>tm 4=(.int .u64 (IntKind.u64.wrap ((IntKind.u64.wrap ((IntKind.u64.wrap (x1*x2))+x4))+x5)))∧tm 5=(.int .u64 (IntKind.u64.wrap (a0*a1)))∧True) ⟨rfl,rfl,trivial⟩ ?_))))))))))
 intro _ i4
 obtain⟨h18,h19,-⟩:=i4
 refine aL ?_
 obtain rfl:=oJ e
 exact⟨.inr rfl,_,(ar2 h18 h19),rfl,hs⟩
structure Nd.J6 (T:FuncId→Option AFunc):Prop where
 own:Has T I.J6 F.J6
 F9:Nd.F9 T
theorem X.J6 (nd:Nd.J6 T){a0:Int}{a1:Int}(hs:Sat Z V H []){r:(Int×Int)}(e:P.J6 a0 a1=some r):
 G T I.J6 [(.int .u64 a0),(.int .u64 a1)] H (fun rv H'=>rv=(.tuple #[(.int .u64 r.1),(.int .u64 r.2)])∧Sat Z V H' []):=by
 unfold P.J6 at e
 refine bB nd.own (af (aa (v:=.int .u64 0) rfl (aa (v:=.int .u64 0) rfl (ae (ah (kl rfl (ar (af (aa (v:=.int .u64 a0) rfl (aa (v:=.int .u64 a1) rfl ?_))))))))))
 obtain⟨x1,q1,e⟩:=oB e
 obtain⟨Z1,V1,W1,g1,u1,c1,c2,-,c4,c3⟩:=Sat.call (l1:=[]) hs
 refine au (mc rfl (mc rfl m0)) (X.F9 nd.F9 c1 q1) fun _ H1 i1=>?_
 obtain⟨rfl,s1⟩:=i1
 have s2:=c3 _ _ s1
 refine aa (v:=.tuple #[(.int .u64 x1.1),(.int .u64 x1.2)]) rfl (bH rfl rfl (bH rfl rfl (aa (v:=.int .u64 x1.1) rfl (aa (v:=.int .u64 x1.2) rfl (ae (ap (P:=fun tm=>tm 8=(.int .u64 x1.1)∧tm 9=(.int .u64 x1.2)∧True) ⟨rfl,rfl,trivial⟩ ?_))))))
 intro _ i2
 obtain⟨h1,h2,-⟩:=i2
 refine af (aa h1 (aa h2 (aa (v:=.int .u64 x1.1) rfl (aa (v:=.int .u64 x1.2) rfl (ae (aL ?_))))))
 obtain rfl:=oJ e
 exact⟨.inr rfl,_,(ar2 rfl rfl),rfl,(s2.weak g1 hs.zv)⟩
structure Nd.D0 (T:FuncId→Option AFunc):Prop where
 own:Has T I.D0 F.D0
 J6:Nd.J6 T
theorem X.D0 {T:FuncId→Option AFunc}(nd:Nd.D0 T){φ:Nat}{Z V:PH}{H:Hp}{v1:Value}{a0:(List Int)}{a1:Int}(hs:Sat Z V H [])(hp1:RdS Sh.int V v1 a0){r:(List Int)}(e:P.D0 φ a0 a1=some r):
 G T I.D0 [v1,vi a1] H (fun rv H'=>∃(u1:Value),rv=u1∧Sat Z V H' [It.sl Sh.int u1 r]):=by
 unfold P.D0 at e
 refine bB nd.own (af (aa (v:=.slice none 0 0) rfl (ae (ah (af (aa (v:=vi a1) rfl (ao rfl rfl (ae (aI rfl (fun q1=>?_) (fun q1=>?_))))))))))
 ·replace e:=ax q1 e
  refine bq ?_
  cases e
 replace e:=bb q1 e
 refine ar (af (aa (v:=v1) rfl (aD rfl (hp1).len (dw rfl (aa (v:=vi a1) rfl (dw rfl ?_))))))
 obtain⟨x1,q2,e⟩:=oB e
 obtain⟨Z1,V1,W1,g1,u1,c1,c2,-,c4,c3⟩:=Sat.call (l1:=[]) hs
 refine au (mc rfl (mc rfl m0)) (X.J6 nd.J6 c1 q2) fun _ H1 i1=>?_
 obtain⟨rfl,s1⟩:=i1
 have s2:=c3 _ _ s1
 refine aa (v:=.tuple #[(.int .u64 x1.1),(.int .u64 x1.2)]) rfl (bH rfl rfl (bH rfl rfl (aa (v:=.int .u64 x1.1) rfl (aa (v:=.int .u64 x1.2) rfl (ae (ap (P:=fun tm=>tm 0=v1∧tm 5=(.int .u64 x1.1)∧tm 6=(.int .u64 x1.2)∧True) ⟨rfl,rfl,rfl,trivial⟩ ?_))))))
 intro _ i2
 obtain⟨h1,h2,h3,-⟩:=i2
 refine ah (af (aa h2 (cC rfl rfl (aa (v:=.bool (decide (0<x1.1))) rfl (cv 3 (I:=fun tm H=>tm 26= .bool ((decide (0<x1.1)) ||(decide (9223372036854775807<x1.2)))∧(∃(Z2 V2:PH),Gw Z1 V1 Z2 V2∧Sat Z2 V2 H []∧tm 0=v1∧tm 6=(.int .u64 x1.2))) (fun k1=>?_) ?_)))))
 ·rcases Bool.eq_false_or_eq_true (decide (0<x1.1)) with q3|q3
  ·refine aE rfl q3 (aE rfl q3 (aY (a:=.bool true) rfl q3 rfl ?_))
   exact k1 _ _ ⟨gf rfl (by first|(rw [q3];first|done|rfl)|simp [q3]),_,_,Gw.refl _ _,s2,h1,h3⟩
  refine aC rfl q3 (aa h3 (aC rfl q3 (cC rfl rfl (aX (b:=.bool (decide (9223372036854775807<x1.2))) rfl q3 rfl ?_))))
  exact k1 _ _ ⟨gf rfl (by first|(rw [q3];first|done|rfl)|simp [q3]),_,_,Gw.refl _ _,s2,h1,h3⟩
 intro _ H2 i3
 obtain⟨h6,Z2,V2,g2,s3,h4,h5⟩:=i3
 refine ae (bx h6 (fun q4=>?_) (fun q4=>?_))
 ·replace e:=ax q4 e
  refine bq ?_
  cases e
 replace e:=aS q4 e
 refine ar (af (aa h5 (dw rfl ?_)))
 obtain⟨x2,q5,e⟩:=oB e
 refine io (s:=Sh.int) s3 Sh.G5 rfl rfl rfl rfl q5 fun w1 H3 s4=>aa (v:=w1) rfl (ae (af (aa (v:=w1) rfl (aa h4 (o_cpy 0 s4 rfl rfl rfl (hp1.mono (g1.trans g2).v) s4.v fun H4 s5=>aa (v:=vi (Pu.cpn x2 0 a0)) rfl (ae (ah ?_)))))))
 obtain⟨y1,q8,e⟩:=oB e
 refine bf (I:=fun tm H=>∃(s8:((List Int)×Int)),y1= .out s8∧(∃(Z4 V4:PH),Gw Z2 V2 Z4 V4∧Sat Z4 V4 H [It.sl Sh.int w1 s8.1]∧tm 7=w1∧tm 8=vi s8.2)) (fun k5=>?_) ?_
 ·refine ay (cc (fun(s6:((List Int)×Int)) tm H=>∃(Z3 V3:PH),Gw Z2 V2 Z3 V3∧Sat Z3 V3 H [It.sl Sh.int w1 s6.1]∧tm 7=w1∧tm 8=vi s6.2) (fun s6 y2 tm H6 j1 e1 k2 k3 k4=>?_) q8 ⟨_,_,Gw.refl _ _,s5,rfl,rfl⟩)
  obtain⟨Z3,V3,g3,s7,h7,h8⟩:=j1
  unfold P.D0.b0 at e1
  refine ah (af (aa h8 (aa h7 (aD rfl ((s7.curS (s:=Sh.int) 0 rfl)).len (ao rfl rfl (ae (aI rfl (fun q9=>?_) (fun q9=>?_))))))))
  ·replace e1:=ax q9 e1
   refine ar (ay (aA s7 fun n1 H8 s10 q10 d1=>aj h8 (aj h7 (aj h8 ?_))))
   obtain⟨x4,q11,e1⟩:=oB e1
   refine d_slclY ((s10.curS 0 rfl).low pR q10) rfl rfl (s10.curS (s:=Sh.int) 0 rfl) pR q11 fun w2 h11 h13=>aj h7 (aj h8 ?_)
   obtain⟨x5,q12,e1⟩:=oB e1
   refine d_slchX ((s10.curS 0 rfl).low pR q10) rfl rfl (s10.curS (s:=Sh.int) 0 rfl) pR rfl q12 fun w3 h14 h15=>d_cpyP 0 s10 rfl q11 h13 rfl rfl h14 pR fun H9 s11 k6=>?_
   have d2:=d1.keep k6
   refine cP rfl rfl (aj (v:=vi (Pu.W (s6.2+(Pu.cpn s6.1 s6.2 x5)))) rfl (aQ aK (aF ?_)))
   exact k2 _ _ _ (sJ e1) ⟨_,_,g3,s11,h7,rfl⟩
  replace e1:=bb q9 e1
  refine aR (aU (aU (bT ?_)))
  exact k5 _ _ ⟨_,k3 _ (sJ e1),_,_,g3,s7,h7,h8⟩
 intro _ H7 i5
 obtain⟨s8,f1,Z4,V4,g4,s9,h9,h10⟩:=i5
 replace e:=bD f1 e
 refine af (aa h9 (aa (v:=w1) rfl (ae (aL ?_))))
 obtain rfl:=oJ e
 exact⟨.inr rfl,_,(ar1 rfl),_,rfl,(s9.weak (g1.trans (g2.trans g4)) hs.zv)⟩
structure Nd.C5 (T:FuncId→Option AFunc):Prop where
 own:Has T I.C5 F.C5
 F4:Nd.F4 T
 D0:Nd.D0 T
theorem X.C5 {T:FuncId→Option AFunc}(nd:Nd.C5 T){φ:Nat}{Z V:PH}{H:Hp}{v1:Value}{v2:Value}{a0:Ty.J5}(hs:Sat Z V H [])(hp1:RdS Sh.int V v1 a0.Accept)(hp2:RdS sI1 V v2 a0.Next){r:Ty.K4}(e:P.C5 φ a0=some r):
 G T I.C5 [(.agg #[vi a0.Start,v1,v2])] H (fun rv H'=>∃(u1:Value) (u2:Value) (u3:Value),rv=(.agg #[u1,u2,u3])∧Sat Z V H' [It.sl Sh.int u1 r.accept,It.sl sI1 u2 r.next_,It.sl sI2 u3 r.prev]):=by
 unfold P.C5 at e
 refine bB nd.own (af ?_)
 obtain⟨d1,rfl⟩:=(hp1).val
 obtain⟨d2,rfl⟩:=(hp2).val
 refine cx hs rfl rfl fun b1 H1 s1=>bv s1 fun b2 H2 s2=>ae (ah (aA s2 fun n1 H3 s3 q1 d3=>bt rfl (aZ (q1 _ _ (an.2 ⟨s3.curB 1 rfl,by simp⟩)) 1 s3 rfl rfl rfl rfl (dI rfl (hp2).len (bt rfl (aZ (q1 _ _ (an.2 ⟨s3.curB 1 rfl,by simp⟩)) 1 s3 rfl rfl rfl rfl ?_))))))
 obtain⟨x1,q2,e⟩:=oB e
 refine aq (v:=vS d2 a0.Next) rfl rfl hp2 rfl q2 fun p1 q3=>iO (RdS.low hp2 s3.v q1) rfl hp2 s3.v q3 q2 fun w1 h1=>dI rfl (h1).len (aj (v:=vN a0.Next) rfl (aj (v:=vN x1) rfl (aQ aK (ap (P:=fun tm=>tm 1=(pV b1 0)∧tm 2=(pV b2 0)∧tm 3=(vN a0.Next)∧tm 4=(vN x1)∧True) ⟨rfl,rfl,rfl,rfl,trivial⟩ ?_))))
 intro _ i1
 obtain⟨h2,h3,h4,h5,-⟩:=i1
 refine af (am h2 (ak 1 s3 rfl rfl rfl rfl ?_))
 obtain⟨x2,q4,e⟩:=oB e
 obtain⟨Z1,V1,W1,g1,u1,c1,c2,-,c4,c3⟩:=Sat.call (l1:=[]) s3
 refine au (mc rfl m0) (X.F4 nd.F4 c1 (hp1.mono (g1.v.trans u1)) q4) fun w2 H4 i2=>?_
 obtain⟨_,rfl,s4⟩:=i2
 have s5:=c3 _ _ s4
 refine bP (s:=Sh.int) (us:=[(vi (-1))]) (qs:=[(0,1,(vi (-1)))]) (xs:=[(-1)]) s5 Sh.G5 rfl rfl rfl (Els.cons (c:=[(vi (-1))]) rfl Els.nil) rfl rfl fun w3 H5 s6=>?_
 obtain⟨x3,q5,e⟩:=oB e
 refine cn 1 s6 rfl Sh.G5 rfl rfl rfl rfl (s6.curS (s:=Sh.int) 0 rfl) pR (fun h=>h) (by decide) q5 fun w4 H6 s7=>?_
 obtain⟨d4,rfl⟩:=((s7.curS (s:=Sh.int) 1 rfl)).val
 refine bR (qs:=[(0,1,(vS d4 x3))]) rfl rfl (bv s7 fun b3 H7 s8=>aP (us':=[(vS d4 x3),(.slice none 0 0),(.slice none 0 0)]) 0 s8 rfl rfl rfl rfl rfl rfl rfl fun H8 s9=>ae (ah (af (aa h4 (az rfl rfl (aa (v:=vi 0) rfl (ae (ap (P:=fun tm=>tm 1=(pV b1 0)∧tm 2=(pV b2 0)∧tm 3=(vN a0.Next)∧tm 4=(vN x1)∧tm 5=(pV b3 0)∧tm 28=(vi (Pu.W ((a0.Next.length:Int)+1)))∧tm 29=vi 0∧True) ⟨h2,h3,h4,h5,rfl,rfl,rfl,trivial⟩ ?_))))))))
 intro _ i3
 obtain⟨h6,h7,h8,h9,h10,h11,h12,-⟩:=i3
 obtain⟨x5,q8,e⟩:=oB e
 obtain⟨rfl,q10⟩:=bp q8
 obtain⟨y1,q11,e⟩:=oB e
 refine ay (aV (xs:=Pu.ran (Pu.W ((a0.Next.length:Int)+1))) (fun(i4:Nat) (s10:(List (List Int))) tm H=>tm 29=vi i4∧∃(Z2 V2:PH) (w5:Value),Gw Z1 V1 Z2 V2∧Sat Z2 V2 H [pts b1 (.rw 0 [vi a0.Start,(vS d1 a0.Accept),(vS d2 a0.Next)]),pts b2 (.rw 0 [(.slice none 0 0),(.slice none 0 0),(.slice none 0 0)]),pts b3 (.rw 0 [(vS d4 x3),w5,(.slice none 0 0)]),Is Sh.int d4 x3,It.sl sI1 w5 s10]∧tm 1=(pV b1 0)∧tm 2=(pV b2 0)∧tm 3=(vN a0.Next)∧tm 4=(vN x1)∧tm 5=(pV b3 0)∧tm 28=(vi (Pu.W ((a0.Next.length:Int)+1)))) (fun i4 x4 s10 s12 tm H10 q6 q7 j1 e1 k1=>?_) (fun tm H9 jd=>?_) q11 ⟨h12,_,_,_,Gw.refl _ _,((s9.push (aW (s:=sI1))).pick [5,4,1,3,0] rfl),h6,h7,h8,h9,h10,h11⟩)
 ·obtain⟨hti0,Z2,V2,w5,g2,s11,h13,h14,h15,h16,h17,h18⟩:=j1
  unfold P.C5.b0 at e1
  have hti0:=iv hti0 (cD q6).symm
  refine af (ao hti0 h18 (ae (ah (be rfl (cf q6) (ar (ah (ay (af (aa hti0 (aa (v:=vi x4) rfl (ae (af (aa h15 (bP (s:=Sh.int) (us:=[(vN a0.Next)]) (qs:=[(0,1,(vN a0.Next))]) (xs:=[(a0.Next.length:Int)]) s11 Sh.G5 rfl rfl rfl (Els.cons (c:=[(vN a0.Next)]) rfl Els.nil) rfl rfl fun w6 H11 s13=>aa h16 ?_))))))))))))))
  obtain⟨x6,q12,e1⟩:=oB e1
  obtain⟨Z3,V3,W2,g3,u2,c5,c6,-,c8,c7⟩:=Sat.call (l1:=[]) s13
  refine au (mc rfl (mc rfl m0)) (X.D0 nd.D0 c5 (c6 0 _ Sh.int _ _ rfl) q12) fun w7 H12 i5=>?_
  obtain⟨_,rfl,s14⟩:=i5
  have s15:=c7 _ _ s14
  refine aa (v:=w7) rfl (ae (ah (af (aa (v:=vi x4) rfl (aa h15 (ao rfl rfl (ae (ap (P:=fun tm=>tm 1=(pV b1 0)∧tm 2=(pV b2 0)∧tm 3=(vN a0.Next)∧tm 4=(vN x1)∧tm 5=(pV b3 0)∧tm 6=vi x4∧tm 7=w7∧tm 28=(vi (Pu.W ((a0.Next.length:Int)+1)))∧tm 29=vi x4∧tm 38=(.bool (decide (x4<(a0.Next.length:Int))))∧True) ⟨h13,h14,h15,h16,h17,rfl,rfl,h18,hti0,rfl,trivial⟩ ?_))))))))
  intro _ i6
  obtain⟨h19,h20,h21,h22,h23,h24,h25,h26,h27,h28,-⟩:=i6
  obtain⟨y2,e2,e1⟩:=oB e1
  refine bf (I:=fun tm H=>∃(Z4 V4:PH),Gw Z3 V3 Z4 V4∧Sat Z4 V4 H [pts b1 (.rw 0 [vi a0.Start,(vS d1 a0.Accept),(vS d2 a0.Next)]),pts b2 (.rw 0 [(.slice none 0 0),(.slice none 0 0),(.slice none 0 0)]),pts b3 (.rw 0 [(vS d4 x3),w5,(.slice none 0 0)]),Is Sh.int d4 x3,It.sl sI1 w5 s10,It.sl Sh.int w7 y2]∧tm 1=(pV b1 0)∧tm 2=(pV b2 0)∧tm 3=(vN a0.Next)∧tm 4=(vN x1)∧tm 5=(pV b3 0)∧tm 7=w7∧tm 28=(vi (Pu.W ((a0.Next.length:Int)+1)))∧tm 29=vi x4) (fun k2=>?_) ?_
  ·refine aI h28 (fun q13=>?_) (fun q13=>?_)
   ·replace e2:=ax q13 e2
    refine af (am h19 (ak 2 s15 rfl rfl rfl rfl (aa h24 ?_)))
    obtain⟨x7,q14,e2⟩:=oB e2
    refine aJ (v:=vS d2 a0.Next) rfl rfl (hp2.mono (g1.trans (g2.trans g3)).v) rfl q14 fun p2 q15=>dh rfl (hp2.mono (g1.trans (g2.trans g3)).v) s15.v q15 q14 fun w8 h37=>aD rfl (h37).len (aa (v:=vi 0) rfl (ae ?_))
    obtain⟨y3,q18,e2⟩:=oB e2
    refine ay (aV (xs:=x7) (fun(i7:Nat) (s17:(List Int)) tm H=>tm 45=vi i7∧∃(Z5 V5:PH),Gw Z3 V3 Z5 V5∧Sat Z5 V5 H [pts b1 (.rw 0 [vi a0.Start,(vS d1 a0.Accept),(vS d2 a0.Next)]),pts b2 (.rw 0 [(.slice none 0 0),(.slice none 0 0),(.slice none 0 0)]),pts b3 (.rw 0 [(vS d4 x3),w5,(.slice none 0 0)]),Is Sh.int d4 x3,It.sl sI1 w5 s10,It.sl Sh.int w7 s17]∧tm 1=(pV b1 0)∧tm 2=(pV b2 0)∧tm 3=(vN a0.Next)∧tm 4=(vN x1)∧tm 5=(pV b3 0)∧tm 7=w7∧tm 28=(vi (Pu.W ((a0.Next.length:Int)+1)))∧tm 29=vi x4∧tm 43=w8∧tm 44=(vN x7)) (fun i7 x8 s17 s19 tm H15 q16 q17 j2 e3 k3=>?_) (fun tm H14 jd=>?_) q18 ⟨rfl,_,_,Gw.refl _ _,(s15.pick [2,3,4,5,6,0] rfl),h19,h20,h21,h22,h23,h25,h26,h27,rfl,rfl⟩)
    ·obtain⟨hti1,Z5,V5,g5,s18,h38,h39,h40,h41,h42,h43,h44,h45,h46,h47⟩:=j2
     unfold P.C5.b1 at e3
     refine af (ao hti1 h47 (ae (ah (be rfl (Int.ofNat_lt.2 q17) (ar (ah (ay (af (aa hti1 (aJ (v:=w8) h46 hti1 (h37.mono g5.v) rfl (Pu.ix_nat.trans q16) fun p3 q19=>cj rfl (h37.mono g5.v) s18.v q19 (Pu.ix_nat.trans q16) (aa (v:=vJ i7) rfl (aa (v:=vi x8) rfl (ae (af (aa (v:=vi x8) rfl (cd rfl rfl (ae ?_)))))))))))))))))
     obtain⟨y4,e4,e3⟩:=oB e3
     refine bf (I:=fun tm H=>∃(Z6 V6:PH),Gw Z5 V5 Z6 V6∧Sat Z6 V6 H [pts b1 (.rw 0 [vi a0.Start,(vS d1 a0.Accept),(vS d2 a0.Next)]),pts b2 (.rw 0 [(.slice none 0 0),(.slice none 0 0),(.slice none 0 0)]),pts b3 (.rw 0 [(vS d4 x3),w5,(.slice none 0 0)]),Is Sh.int d4 x3,It.sl sI1 w5 s10,It.sl Sh.int w7 y4]∧tm 1=(pV b1 0)∧tm 2=(pV b2 0)∧tm 3=(vN a0.Next)∧tm 4=(vN x1)∧tm 5=(pV b3 0)∧tm 7=w7∧tm 28=(vi (Pu.W ((a0.Next.length:Int)+1)))∧tm 29=vi x4∧tm 43=w8∧tm 44=(vN x7)∧tm 45=(vJ i7)) (fun k4=>?_) ?_
     ·refine aI rfl (fun q20=>?_) (fun q20=>?_)
      ·replace e4:=ax q20 e4
       refine bq (aa h43 (aa (v:=vJ i7) rfl (aa (v:=vi x8) rfl ?_)))
       obtain⟨x9,q21,e4⟩:=oB e4
       refine aJ (v:=w7) rfl rfl (s18.curS (s:=Sh.int) 5 rfl) rfl q21 fun p4 q22=>jq 5 s18 rfl Sh.G5 rfl rfl rfl q22 q21 rfl rfl fun H17 s21=>ae ?_
       obtain rfl:=oJ e4
       exact k4 _ _ ⟨_,_,Gw.refl _ _,s21,h38,h39,h40,h41,h42,h43,h44,h45,h46,h47,hti1⟩
      replace e4:=bb q20 e4
      refine ar ?_
      obtain rfl:=oJ e4
      exact k4 _ _ ⟨_,_,Gw.refl _ _,s18,h38,h39,h40,h41,h42,h43,h44,h45,h46,h47,hti1⟩
     intro _ H16 i8
     obtain⟨Z6,V6,g6,s20,h48,h49,h50,h51,h52,h53,h54,h55,h56,h57,h58⟩:=i8
     refine aF (bq (az h58 rfl (aa (v:=vi (Pu.W ((i7:Int)+1))) rfl (ae ?_))))
     obtain rfl:=oJ e3
     exact k3 _ _ ⟨(iv rfl (bE q17 (h37).bd)),_,_,(g5.trans g6),s20,h48,h49,h50,h51,h52,h53,h54,h55,h56,h57⟩
    obtain⟨hte1,Z7,V7,g7,s22,h59,h60,h61,h62,h63,h64,h65,h66,h67,h68⟩:=jd
    refine af (ao hte1 h68 (ae (ah (bc rfl (Int.lt_irrefl _) (aR (aU (aU (bT ?_))))))))
    obtain rfl:=oJ e2
    exact k2 _ _ ⟨_,_,g7,s22,h59,h60,h61,h62,h63,h64,h65,h66⟩
   replace e2:=bb q13 e2
   refine ar ?_
   obtain rfl:=oJ e2
   exact k2 _ _ ⟨_,_,Gw.refl _ _,(s15.pick [2,3,4,5,6,0] rfl),h19,h20,h21,h22,h23,h25,h26,h27⟩
  intro _ H13 i9
  obtain⟨Z4,V4,g4,s16,h29,h30,h31,h32,h33,h34,h35,h36⟩:=i9
  refine bq (am h33 ?_)
  obtain⟨d5,rfl⟩:=((s16.curS (s:=sI1) 4 rfl)).val
  refine ak 2 s16 rfl rfl rfl rfl (aa h34 ?_)
  have s23:=s16.pull 5 rfl
  refine gI s23 rfl fun w9 H19 s24=>?_
  obtain⟨x10,q23,e1⟩:=oB e1
  refine gH 4 s24 rfl rfl rfl (by decide) q23 (List.cons_ne_nil _ _) fun w10 H20 s25=>am h33 ?_
  obtain⟨d6,rfl⟩:=((s25.curS (s:=sI1) 4 rfl)).val
  refine aP (us':=[(vS d4 x3),(vS d6 x10),(.slice none 0 0)]) 2 s25 rfl rfl rfl rfl rfl rfl rfl fun H21 s26=>ae (aF (bq (az h36 rfl (aa (v:=vi (Pu.W (x4+1))) rfl (ae ?_)))))
  obtain rfl:=oJ e1
  exact k1 _ _ ⟨(iv rfl (bU q6 q10)),_,_,_,(g2.trans (g3.trans g4)),s26,h29,h30,h31,h32,h33,h35⟩
 obtain⟨hte0,Z8,V8,w11,g8,s27,h69,h70,h71,h72,h73,h74⟩:=jd
 refine af (ao hte0 h74 (ae (ah (bc rfl (bA _) (aR (aU (aU (bT (ah (af (aa h72 (aa (v:=vi 0) rfl (ae ?_)))))))))))))
 obtain⟨x12,q26,e⟩:=oB e
 obtain⟨rfl,q28⟩:=bp q26
 obtain⟨y5,q29,e⟩:=oB e
 refine ay (aV (xs:=Pu.ran (x1.length:Int)) (fun(i10:Nat) (s28:(List (List (List Int)))) tm H=>tm 65=vi i10∧∃(Z9 V9:PH) (w12:Value),Gw Z8 V8 Z9 V9∧Sat Z9 V9 H [pts b2 (.rw 0 [(.slice none 0 0),(.slice none 0 0),(.slice none 0 0)]),pts b3 (.rw 0 [(vS d4 x3),w11,w12]),Is Sh.int d4 x3,It.sl sI1 w11 y1,It.sl sI2 w12 s28]∧tm 2=(pV b2 0)∧tm 3=(vN a0.Next)∧tm 5=(pV b3 0)∧tm 64=(vN x1)) (fun i10 x11 s28 s30 tm H24 q24 q25 j3 e5 k5=>?_) (fun tm H23 jd=>?_) q29 ⟨rfl,_,_,_,Gw.refl _ _,((s27.push (aW (s:=sI2))).pick [2,3,4,5,0] rfl),h70,h71,h73,rfl⟩)
 ·obtain⟨hti2,Z9,V9,w12,g9,s29,h75,h76,h77,h78⟩:=j3
  unfold P.C5.b2 at e5
  have hti2:=iv hti2 (cD q24).symm
  refine af (ao hti2 h78 (ae (ah (be rfl (cf q24) (ar (ah (ay (af (aa hti2 (aa (v:=vi x11) rfl (ae (ah (aA s29 fun n2 H25 s31 q30 d7=>bt h77 ?_)))))))))))))
  obtain⟨d8,rfl⟩:=((s31.curS (s:=sI1) 3 rfl)).val
  obtain⟨d9,rfl⟩:=((s31.curS (s:=sI2) 4 rfl)).val
  refine aZ (q30 _ _ (an.2 ⟨s31.curB 1 rfl,by simp⟩)) 1 s31 rfl rfl rfl rfl (aj h76 (cP rfl rfl ?_))
  obtain⟨x13,q31,e5⟩:=oB e5
  refine d_mksH (s:=Sh.int) (d7.get 4 rfl rfl) s31 rfl rfl q31 fun w13 H26 s32 k6=>?_
  have d10:=d7.next 4 rfl k6
  refine jA (d10.get 5 rfl rfl) s32 rfl fun w14 H27 s33 k7=>?_
  have d11:=d10.next 5 rfl k7
  obtain⟨x14,q32,e5⟩:=oB e5
  refine jz 4 s33 rfl rfl rfl (by decide) q32 (List.cons_ne_nil _ _) fun w15 H28 s34 k8=>?_
  have d12:=d11.keep k8
  refine bt h77 ?_
  obtain⟨d13,rfl⟩:=((s34.curS (s:=sI2) 4 rfl)).val
  refine eC (us':=[(vS d4 x3),(vS d8 y1),(vS d13 x14)]) 1 s34 rfl rfl rfl rfl rfl rfl rfl fun H29 s35 k9=>?_
  have d14:=d12.keep k9
  refine aQ aK (ap (P:=fun tm=>tm 2=(pV b2 0)∧tm 3=(vN a0.Next)∧tm 5=(pV b3 0)∧tm 10=vi x11∧tm 64=(vN x1)∧tm 65=vi x11∧True) ⟨h75,h76,h77,rfl,h78,hti2,trivial⟩ ?_)
  intro _ i11
  obtain⟨h79,h80,h81,h82,h83,h84,-⟩:=i11
  refine af (am h81 (ak 1 s35 rfl rfl rfl rfl (aD rfl ((s35.curS (s:=sI1) 3 rfl)).len (aa (v:=vi 0) rfl (ae ?_)))))
  obtain⟨x16,q35,e5⟩:=oB e5
  obtain⟨rfl,q37⟩:=bp q35
  obtain⟨y6,q38,e5⟩:=oB e5
  refine ay (aV (xs:=Pu.ran (y1.length:Int)) (fun(i12:Nat) (s36:(List (List (List Int)))) tm H=>tm 79=vi i12∧∃(Z10 V10:PH),Gw Z9 V9 Z10 V10∧Sat Z10 V10 H [pts b2 (.rw 0 [(.slice none 0 0),(.slice none 0 0),(.slice none 0 0)]),pts b3 (.rw 0 [(vS d4 x3),(vS d8 y1),(vS d13 x14)]),Is Sh.int d4 x3,Is sI1 d8 y1,It.sl sI2 (vS d13 x14) s36]∧tm 2=(pV b2 0)∧tm 3=(vN a0.Next)∧tm 5=(pV b3 0)∧tm 10=vi x11∧tm 64=(vN x1)∧tm 65=vi x11∧tm 78=(vN y1)) (fun i12 x15 s36 s38 tm H31 q33 q34 j4 e6 k10=>?_) (fun tm H30 jd=>?_) q38 ⟨rfl,_,_,Gw.refl _ _,s35,h79,h80,h81,h82,h83,h84,rfl⟩)
  ·obtain⟨hti3,Z10,V10,g10,s37,h85,h86,h87,h88,h89,h90,h91⟩:=j4
   unfold P.C5.b3 at e6
   have hti3:=iv hti3 (cD q33).symm
   refine af (ao hti3 h91 (ae (ah (be rfl (cf q33) (ar (ah (ay (af (aa hti3 (aa (v:=vi x15) rfl (ae (af (am h87 (ak 1 s37 rfl rfl rfl rfl (aa (v:=vi x15) rfl ?_)))))))))))))))
   obtain⟨x17,q39,e6⟩:=oB e6
   refine aJ (v:=vS d8 y1) rfl rfl (s37.curS (s:=sI1) 3 rfl) rfl q39 fun p5 q40=>fT rfl (s37.curS (s:=sI1) 3 rfl) pR q40 q39 fun w16 h92 h93=>aa h88 ?_
   obtain⟨x18,q41,e6⟩:=oB e6
   refine aJ (v:=w16) rfl rfl h92 rfl q41 fun p6 q42=>cj rfl h92 pR q42 q41 (aa (v:=vi x18) rfl (ae (ap (P:=fun tm=>tm 2=(pV b2 0)∧tm 3=(vN a0.Next)∧tm 5=(pV b3 0)∧tm 10=vi x11∧tm 11=vi x15∧tm 12=vi x18∧tm 64=(vN x1)∧tm 65=vi x11∧tm 78=(vN y1)∧tm 79=vi x15∧True) ⟨h85,h86,h87,h88,rfl,rfl,h89,h90,h91,hti3,trivial⟩ ?_)))
   intro _ i13
   obtain⟨h94,h95,h96,h97,h98,h99,h100,h101,h102,h103,-⟩:=i13
   refine aA s37 fun n3 H32 s39 q43 d15=>bt h96 (aZ (q43 _ _ (an.2 ⟨s39.curB 1 rfl,by simp⟩)) 1 s39 rfl rfl rfl rfl (aj h97 ?_))
   obtain⟨x19,q44,e6⟩:=oB e6
   refine aq (v:=vS d13 x14) rfl rfl (s39.curS (s:=sI2) 4 rfl) rfl q44 fun p7 q45=>iN ((s39.curS 4 rfl).low pR q43) 4 s39 rfl rfl q45 q44 fun w17 s40=>?_
   have h104:=RdS.low (s40.curS 0 rfl) pR q43
   refine aj h99 (bt h96 (aZ (q43 _ _ (an.2 ⟨s39.curB 1 rfl,by simp⟩)) 2 s40 rfl rfl rfl rfl (aj h97 ?_)))
   obtain⟨x20,q47,e6⟩:=oB e6
   refine gC 5 s40 rfl rfl rfl rfl q47 fun p8 q46=>d_ldh ((s39.curS 4 rfl).low pR q43) 5 s40 rfl rfl q46 q47 (aj h99 ?_)
   obtain⟨x21,q48,e6⟩:=oB e6
   refine aq (v:=w17) rfl rfl (s40.curS (s:=sI1) 0 rfl) rfl q48 fun p9 q49=>iN h104 0 s40 rfl rfl q49 q48 fun w18 s41=>aj h98 (fE (s:=Sh.int) (us:=[vi x15]) (qs:=[(0,1,(vi x15))]) (xs:=[x15]) (d15.get 15 rfl rfl) s41 Sh.G5 rfl rfl rfl (Els.cons (c:=[vi x15]) rfl Els.nil) rfl rfl fun w19 H33 s42 k11=>?_)
   have d16:=d15.next 15 rfl k11
   obtain⟨x22,q50,e6⟩:=oB e6
   refine fD 1 s42 rfl Sh.G5 rfl rfl rfl rfl (s42.curS (s:=Sh.int) 0 rfl) pR (fun h=>h) (by decide) q50 fun w20 H34 s43 k12=>?_
   have d17:=d16.keep k12
   obtain⟨x23,q52,e6⟩:=oB e6
   refine gC 2 s43 rfl rfl rfl rfl q52 fun p10 q51=>jC 2 s43 rfl rfl rfl q51 q52 (s43.curS (s:=Sh.int) 1 rfl).one fun H35 s44 k13=>?_
   have d18:=d17.keep k13
   have s45:=Sat.unfoc 1 rfl (s44.pull 1 rfl)
   have s46:=Sat.unfoc 5 rfl (s45.pull 1 rfl)
   refine aQ (cV rfl (ta16 (ta2 (tre (trl tr0)))) (ta2 (tra (tre (tl16 tr0)))) (ta2 (tre (tl16 (trl tr0)))) (bZ (w:=vS d13 x14) ek rfl (bG 1 s39 rfl rfl rfl) (bG 4 s42 rfl rfl rfl) (by simp [vsame,vsame1])) (bZ (w:=vS d13 x14) ek rfl (bG 1 s39 rfl rfl rfl) (bG 4 s43 rfl rfl rfl) (by simp [vsame,vsame1])) (cV rfl (ta8 (ta4 (ta2 (tra (tre (tl4 tr0)))))) (ta2 (tra (tre (tl16 tr0)))) (ta2 (tre (tl16 (trl tr0)))) (bZ (w:=w17) ek rfl (eI 5 s40 rfl q44 q45) (eI 7 s42 rfl q44 q45) (iw (s40.curS (s:=sI1) 0 rfl))) (bZ (w:=w17) ek rfl (eI 5 s40 rfl q44 q45) (eI 7 s43 rfl q44 q45) (iw (s40.curS (s:=sI1) 0 rfl))) aK)) (aF (bq (az h103 rfl (aa (v:=vi (Pu.W (x15+1))) rfl (ae ?_)))))
   obtain rfl:=oJ e6
   exact k10 _ _ ⟨(iv rfl (bU q33 q37)),_,_,g10,(s46.pick [1,2,3,4,5] rfl),h94,h95,h96,h97,h100,h101,h102⟩
  obtain⟨hte3,Z11,V11,g11,s47,h105,h106,h107,h108,h109,h110,h111⟩:=jd
  refine af (ao hte3 h111 (ae (ah (bc rfl (bA _) (aR (aU (aU (bT (aF (bq (az h110 rfl (aa (v:=vi (Pu.W (x11+1))) rfl (ae ?_)))))))))))))
  obtain rfl:=oJ e5
  exact k5 _ _ ⟨(iv rfl (bU q24 q28)),_,_,_,(g9.trans g11),s47,h105,h106,h107,h109⟩
 obtain⟨hte2,Z12,V12,w21,g12,s48,h112,h113,h114,h115⟩:=jd
 refine af (ao hte2 h115 (ae (ah (bc rfl (bA _) (aR (aU (aU (bT (af ?_)))))))))
 obtain⟨d19,rfl⟩:=((s48.curS (s:=sI1) 3 rfl)).val
 obtain⟨d20,rfl⟩:=((s48.curS (s:=sI2) 4 rfl)).val
 refine ak 1 s48 rfl h114 rfl rfl (aP (us':=[(vS d4 x3),(vS d19 y1),(vS d20 y5)]) 0 s48 rfl h112 rfl rfl rfl rfl rfl fun H38 s49=>ae (aL ?_))
 obtain rfl:=oJ e
 exact⟨.inr rfl,_,(arB 0 s49 rfl h112 rfl rfl),_,_,_,rfl,((s49.pick [2,3,4] rfl).weak (g1.trans (g8.trans g12)) hs.zv)⟩
structure Nd.G7 (T:FuncId→Option AFunc):Prop where
 own:Has T I.G7 F.G7
theorem X.G7 (nd:Nd.G7 T){v1:Value}{a0:(List Int)}(hs:Sat Z V H [])(hp1:RdS Sh.int V v1 a0){r:Ty.K5}(e:P.G7 a0=some r):
 G T I.G7 [v1] H (fun rv H'=>∃(o101:Nat) (u2:Value) (u3:Value),rv=(pV o101 0)∧Sat Z V H' [pts o101 (.rw 0 [u2,u3]),It.sl Sh.int u2 r.of_,It.sl sI1 u3 r.blocks]):=by
 unfold P.G7 at e
 refine bB nd.own (af (aa (v:=.pointer none) rfl (ae (af (aa (v:=v1) rfl (aD rfl (hp1).len ?_))))))
 obtain⟨x1,q1,e⟩:=oB e
 refine io (s:=Sh.int) hs Sh.G5 rfl rfl rfl rfl q1 fun w1 H1 s1=>?_
 obtain⟨d1,rfl⟩:=((s1.curS (s:=Sh.int) 0 rfl)).val
 refine bR (qs:=[(0,1,(vS d1 x1))]) rfl rfl (cx s1 rfl rfl fun b1 H2 s2=>aa (v:=pV b1 0) rfl (ae (af (dy (vi:Int→Value) (vi:Int→Value) s2 fun b2 H3 s3=>aa (v:=.map (some b2)) rfl (ae (ah (af (aa (v:=v1) rfl (aD rfl (hp1).len (aa (v:=vi 0) rfl (ae (ap (P:=fun tm=>tm 3=(pV b1 0)∧tm 4=(.map (some b2))∧tm 15=v1∧tm 16=(vN a0)∧tm 17=vi 0∧True) ⟨rfl,rfl,rfl,rfl,rfl,trivial⟩ ?_))))))))))))
 intro _ i1
 obtain⟨h1,h2,h3,h4,h5,-⟩:=i1
 obtain⟨y1,q4,e⟩:=oB e
 refine ay (aV (xs:=a0) (fun(i2:Nat) (s4:((List Int)×(List (List Int))×(List (Int×Int)))) tm H=>tm 17=vi i2∧∃(Z1 V1:PH) (w2:Value),Gw Z V Z1 V1∧Sat Z1 V1 H [pts b1 (.rw 0 [(vS d1 x1),w2]),It.sl Sh.int (vS d1 x1) s4.1,It.sl sI1 w2 s4.2.1,It.mp vi vi b2 s4.2.2]∧tm 3=(pV b1 0)∧tm 4=(.map (some b2))∧tm 15=v1∧tm 16=(vN a0)) (fun i2 x2 s4 s6 tm H5 q2 q3 j1 e1 k1=>?_) (fun tm H4 jd=>?_) q4 ⟨h5,_,_,_,Gw.refl _ _,((s3.push (aW (s:=sI1))).pick [2,3,0,1] rfl),h1,h2,h3,h4⟩)
 ·obtain⟨hti0,Z1,V1,w2,g1,s5,h6,h7,h8,h9⟩:=j1
  unfold P.G7.b0 at e1
  refine af (ao hti0 h9 (ae (ah (be rfl (Int.ofNat_lt.2 q3) (ar (ah (ay (af (aa hti0 (aJ (v:=v1) h8 hti0 (hp1.mono g1.v) rfl (Pu.ix_nat.trans q2) fun p1 q5=>cj rfl (hp1.mono g1.v) s5.v q5 (Pu.ix_nat.trans q2) (aa (v:=vJ i2) rfl (aa (v:=vi x2) rfl (ae (af (aa h7 (aa (v:=vi x2) rfl (gK Mk.i (q:=x2) (z:=0) 3 s5 rfl rfl rfl rfl rfl (aa (v:=.tuple #[(vi ((Pu.mget x2 s4.2.2).getD 0)),(.bool ((Pu.mget x2 s4.2.2).isSome))]) rfl (bH rfl rfl (bH rfl rfl (aa (v:=vi ((Pu.mget x2 s4.2.2).getD 0)) rfl (aa (v:=.bool ((Pu.mget x2 s4.2.2).isSome)) rfl (ae (ap (P:=fun tm=>tm 3=(pV b1 0)∧tm 4=(.map (some b2))∧tm 5=(vJ i2)∧tm 6=vi x2∧tm 7=(vi ((Pu.mget x2 s4.2.2).getD 0))∧tm 8=(.bool ((Pu.mget x2 s4.2.2).isSome))∧tm 15=v1∧tm 16=(vN a0)∧tm 17=(vJ i2)∧True) ⟨h6,h7,rfl,rfl,rfl,rfl,h8,h9,hti0,trivial⟩ ?_))))))))))))))))))))))))
  intro _ i3
  obtain⟨h10,h11,h12,h13,h14,h15,h16,h17,h18,-⟩:=i3
  refine ah (af (aa h15 (cy rfl (ae ?_))))
  obtain⟨y2,e2,e1⟩:=oB e1
  refine bf (I:=fun tm H=>∃(Z2 V2:PH) (w3:Value),Gw Z1 V1 Z2 V2∧Sat Z2 V2 H [pts b1 (.rw 0 [(vS d1 x1),w3]),It.sl Sh.int (vS d1 x1) s4.1,It.sl sI1 w3 y2.1,It.mp vi vi b2 y2.2.1]∧tm 3=(pV b1 0)∧tm 4=(.map (some b2))∧tm 5=(vJ i2)∧tm 7=vi y2.2.2∧tm 15=v1∧tm 16=(vN a0)∧tm 17=(vJ i2)) (fun k2=>?_) ?_
  ·refine bx rfl (fun q6=>?_) (fun q6=>?_)
   ·replace e2:=ax q6 e2
    refine af (aa h10 (bS rfl (am rfl ?_)))
    obtain⟨d2,rfl⟩:=((s5.curS (s:=sI1) 2 rfl)).val
    refine ak 0 s5 rfl rfl rfl rfl (aD rfl ((s5.curS (s:=sI1) 2 rfl)).len (aa (v:=vN s4.2.1) rfl (ae (af (aa h11 (aa h13 (aa (v:=vN s4.2.1) rfl (dz Mk.i (q:=x2) (v:=(s4.2.1.length:Int)) 3 s5 rfl rfl rfl rfl rfl rfl fun H7 s8=>ae (ap (P:=fun tm=>tm 3=(pV b1 0)∧tm 4=(.map (some b2))∧tm 5=(vJ i2)∧tm 7=(vN s4.2.1)∧tm 15=v1∧tm 16=(vN a0)∧tm 17=(vJ i2)∧True) ⟨h10,h11,h12,rfl,h16,h17,h18,trivial⟩ ?_)))))))))
    intro _ i4
    obtain⟨h26,h27,h28,h29,h30,h31,h32,-⟩:=i4
    refine bq (aa h26 (aa h26 (bS rfl (am rfl (ak 0 s8 rfl rfl rfl rfl ?_)))))
    have s9:=s8.push (aW (s:=Sh.int))
    refine gI s9 rfl fun w4 H8 s10=>?_
    obtain⟨x3,q7,e2⟩:=oB e2
    refine gH 2 s10 rfl rfl rfl (by decide) q7 (List.cons_ne_nil _ _) fun w5 H9 s11=>bS rfl (am rfl ?_)
    obtain⟨d3,rfl⟩:=((s11.curS (s:=sI1) 2 rfl)).val
    refine aP (us':=[(vS d1 x1),(vS d3 x3)]) 0 s11 rfl rfl rfl rfl rfl rfl rfl fun H10 s12=>ae ?_
    obtain rfl:=oJ e2
    exact k2 _ _ ⟨_,_,_,Gw.refl _ _,s12,h26,h27,h28,h29,h30,h31,h32⟩
   replace e2:=aS q6 e2
   refine ar ?_
   obtain rfl:=oJ e2
   exact k2 _ _ ⟨_,_,_,Gw.refl _ _,s5,h10,h11,h12,h14,h16,h17,h18⟩
  intro _ H6 i5
  obtain⟨Z2,V2,w3,g2,s7,h19,h20,h21,h22,h23,h24,h25⟩:=i5
  refine aA s7 fun n1 H11 s13 q8 d4=>aj h19 (cI rfl (bt rfl ?_))
  obtain⟨d5,rfl⟩:=((s13.curS (s:=sI1) 2 rfl)).val
  refine aZ (q8 _ _ (an.2 ⟨s13.curB 0 rfl,by simp⟩)) 0 s13 rfl rfl rfl rfl (aj h21 (aj h19 (cI rfl (bt rfl (aZ (q8 _ _ (an.2 ⟨s13.curB 0 rfl,by simp⟩)) 0 s13 rfl rfl rfl rfl (aj h22 (aj h22 (aj h19 (cI rfl (bt rfl (aZ (q8 _ _ (an.2 ⟨s13.curB 0 rfl,by simp⟩)) 0 s13 rfl rfl rfl rfl (aj h22 ?_))))))))))))
  obtain⟨x4,q9,e1⟩:=oB e1
  refine aq (v:=vS d5 y2.1) rfl rfl (s13.curS (s:=sI1) 2 rfl) rfl q9 fun p2 q10=>iN ((s13.curS 2 rfl).low pR q8) 2 s13 rfl rfl q10 q9 fun w6 s14=>aj h21 (fE (s:=Sh.int) (us:=[(vJ i2)]) (qs:=[(0,1,(vJ i2))]) (xs:=[(i2:Int)]) (d4.get 19 rfl rfl) s14 Sh.G5 rfl rfl rfl (Els.cons (c:=[(vJ i2)]) rfl Els.nil) rfl rfl fun w7 H12 s15 k3=>?_)
  have d6:=d4.next 19 rfl k3
  obtain⟨x5,q11,e1⟩:=oB e1
  refine fD 1 s15 rfl Sh.G5 rfl rfl rfl rfl (s15.curS (s:=Sh.int) 0 rfl) pR (fun h=>h) (by decide) q11 fun w8 H13 s16 k4=>?_
  have d7:=d6.keep k4
  obtain⟨x6,q12,e1⟩:=oB e1
  refine aq (v:=vS d1 x1) rfl rfl (s16.curS (s:=Sh.int) 3 rfl) rfl q12 fun p3 q13=>cw 3 s16 rfl Sh.G5 rfl rfl rfl q13 q12 rfl rfl fun H14 s17 k5=>?_
  have d8:=d7.keep k5
  obtain⟨x7,q15,e1⟩:=oB e1
  refine gC 4 s17 rfl rfl rfl rfl q15 fun p4 q14=>jC 4 s17 rfl rfl rfl q14 q15 (s17.curS (s:=Sh.int) 1 rfl).one fun H15 s18 k6=>?_
  have d9:=d8.keep k6
  have s19:=Sat.unfoc 3 rfl (s18.pull 1 rfl)
  refine aQ (cV rfl (ta16 (ta4 (ta2 (tre (tl2 (trl tr0)))))) (ta4 (tra (tre (tl16 (tl4 tr0))))) (ta4 (tre (tl16 (tl4 (trl tr0))))) (bZ (w:=vS d1 x1) ek rfl (bG 0 s13 rfl rfl rfl) (bG 2 s15 rfl rfl rfl) (by simp [vsame,vsame1])) (bZ (w:=vS d1 x1) ek rfl (bG 0 s13 rfl rfl rfl) (bG 2 s16 rfl rfl rfl) (by simp [vsame,vsame1])) (cV rfl (ta16 (tra (tre (tl8 tr0)))) (ta4 (tra (tre (tl16 (tl4 tr0))))) (ta4 (tre (tl16 (tl4 (trl tr0))))) (bZ (w:=vS d5 y2.1) ek rfl (bG 0 s13 rfl rfl rfl) (bG 2 s15 rfl rfl rfl) (by simp [vsame,vsame1])) (bZ (w:=vS d5 y2.1) ek rfl (bG 0 s13 rfl rfl rfl) (bG 2 s16 rfl rfl rfl) (by simp [vsame,vsame1])) aK)) (aF (bq (az h25 rfl (aa (v:=vi (Pu.W ((i2:Int)+1))) rfl (ae ?_)))))
  obtain rfl:=oJ e1
  exact k1 _ _ ⟨(iv rfl (bE q3 (hp1).bd)),_,_,_,(g1.trans g2),(s19.pick [1,2,3,4] rfl),h19,h20,h23,h24⟩
 obtain⟨hte0,Z3,V3,w9,g3,s20,h33,h34,h35,h36⟩:=jd
 refine af (ao hte0 h36 (ae (ah (bc rfl (Int.lt_irrefl _) (aR (aU (aU (bT (af (aa h33 (aa (v:=pV b1 0) rfl (ae (aL ?_)))))))))))))
 obtain⟨d10,rfl⟩:=((s20.curS (s:=sI1) 2 rfl)).val
 obtain rfl:=oJ e
 exact⟨.inr rfl,_,(ar1 rfl),_,_,_,rfl,((s20.pick [0,1,2] rfl).weak g3 hs.zv)⟩
structure Nd.B5 (T:FuncId→Option AFunc):Prop where
 own:Has T I.B5 F.B5
 C4:Nd.C4 T
theorem X.B5 (nd:Nd.B5 T){v1:Value}{v2:Value}{o1:Nat}{v3:Value}{a0:Ty.K5}{a1:(List Int)}(hs:Sat Z V H [pts o1 (.rw 0 [v1,v2]),It.sl Sh.int v1 a0.of_,It.sl sI1 v2 a0.blocks])(hp3:RdS Sh.int V v3 a1){r:(Ty.K5×(List (Int×Int)))}(e:P.B5 a0 a1=some r):
 G T I.B5 [(pV o1 0),v3] H (fun rv H'=>∃(u1:Value) (u2:Value) (u3:Value),rv=u3∧Sat Z V H' [pts o1 (.rw 0 [u1,u2]),It.sl Sh.int u1 r.1.of_,It.sl sI1 u2 r.1.blocks,It.sl (Sh.ro Sh.arr2) u3 r.2]):=by
 unfold P.B5 at e
 refine bB nd.own (af (aa (v:=.slice none 0 0) rfl (ae (af (dy (vi:Int→Value) (Value.bool:Bool→Value) hs fun b1 H1 s1=>aa (v:=.map (some b1)) rfl (ae (af (aa (v:=.slice none 0 0) rfl (ae (ah (af (aa (v:=v3) rfl (aD rfl (hp3).len (aa (v:=vi 0) rfl (ae ?_)))))))))))))))
 obtain⟨y1,q3,e⟩:=oB e
 refine ay (aV (xs:=a1) (fun(i1:Nat) (s2:((List (Int×Bool))×(List Int))) tm H=>tm 22=vi i1∧∃(Z1 V1:PH) (w1:Value),Gw Z V Z1 V1∧Sat Z1 V1 H [pts o1 (.rw 0 [v1,v2]),It.sl Sh.int v1 a0.of_,It.sl sI1 v2 a0.blocks,It.mp vi Value.bool b1 s2.1,It.sl Sh.int w1 s2.2]∧tm 0=(pV o1 0)∧tm 5=(.map (some b1))∧tm 6=w1∧tm 20=v3∧tm 21=(vN a1)) (fun i1 x1 s2 s4 tm H3 q1 q2 j1 e1 k1=>?_) (fun tm H2 jd=>?_) q3 ⟨rfl,_,_,_,Gw.refl _ _,((s1.push (aW (s:=Sh.int))).pick [2,3,4,1,0] rfl),rfl,rfl,rfl,rfl,rfl⟩)
 ·obtain⟨hti0,Z1,V1,w1,g1,s3,h1,h2,h3,h4,h5⟩:=j1
  unfold P.B5.b0 at e1
  refine af (ao hti0 h5 (ae (ah (be rfl (Int.ofNat_lt.2 q2) (ar (ah (ay (af (aJ (v:=v3) h4 hti0 (hp3.mono g1.v) rfl (Pu.ix_nat.trans q1) fun p1 q4=>cj rfl (hp3.mono g1.v) s3.v q4 (Pu.ix_nat.trans q1) (aa (v:=vi x1) rfl (ae (af (aa h2 (aa (v:=vi x1) rfl (dz Mk.i (q:=x1) (v:=true) 3 s3 rfl rfl rfl rfl rfl rfl fun H4 s5=>ae (af (aa h3 (aa h1 (bS rfl (am rfl ?_))))))))))))))))))))
  obtain⟨d1,rfl⟩:=((s5.curS (s:=Sh.int) 1 rfl)).val
  obtain⟨d2,rfl⟩:=((s5.curS (s:=sI1) 2 rfl)).val
  refine ak 0 s5 rfl rfl rfl rfl (aa (v:=vi x1) rfl ?_)
  obtain⟨x2,q5,e1⟩:=oB e1
  refine aJ (v:=vS d1 a0.of_) rfl rfl (s5.curS (s:=Sh.int) 1 rfl) rfl q5 fun p2 q6=>cj rfl (s5.curS (s:=Sh.int) 1 rfl) pR q6 q5 ?_
  obtain⟨x3,q7,e1⟩:=oB e1
  obtain⟨Z2,V2,W1,g2,u1,c1,c2,-,c4,c3⟩:=Sat.call (l1:=[]) s5
  refine au (mc rfl (mc rfl m0)) (X.C4 nd.C4 c1 (c2 4 _ Sh.int _ _ rfl) q7) fun _ H5 i2=>?_
  obtain⟨rfl,s6⟩:=i2
  have s7:=c3 _ _ s6
  refine cy rfl (ae (ap (P:=fun tm=>tm 0=(pV o1 0)∧tm 5=(.map (some b1))∧tm 6=w1∧tm 8=vi x1∧tm 20=v3∧tm 21=(vN a1)∧tm 22=(vJ i1)∧tm 37=(.bool (!x3))∧True) ⟨h1,h2,h3,rfl,h4,h5,hti0,rfl,trivial⟩ ?_))
  intro _ i3
  obtain⟨h6,h7,h8,h9,h10,h11,h12,h13,-⟩:=i3
  obtain⟨y2,e2,e1⟩:=oB e1
  refine bf (I:=fun tm H=>∃(Z3 V3:PH) (w2:Value),Gw Z2 V2 Z3 V3∧Sat Z3 V3 H [pts o1 (.rw 0 [(vS d1 a0.of_),(vS d2 a0.blocks)]),Is Sh.int d1 a0.of_,Is sI1 d2 a0.blocks,It.mp vi Value.bool b1 (Pu.mput x1 true s2.1),It.sl Sh.int w2 y2]∧tm 0=(pV o1 0)∧tm 5=(.map (some b1))∧tm 6=w2∧tm 20=v3∧tm 21=(vN a1)∧tm 22=(vJ i1)) (fun k2=>?_) ?_
  ·refine bx h13 (fun q8=>?_) (fun q8=>?_)
   ·replace e2:=ax q8 e2
    refine bq (aa h8 (aa h6 (bS rfl (am rfl (ak 0 s7 rfl rfl rfl rfl (aa h9 ?_))))))
    obtain⟨x4,q9,e2⟩:=oB e2
    refine aJ (v:=vS d1 a0.of_) rfl rfl (s7.curS (s:=Sh.int) 1 rfl) rfl q9 fun p3 q10=>cj rfl (s7.curS (s:=Sh.int) 1 rfl) pR q10 q9 (bP (s:=Sh.int) (us:=[vi x4]) (qs:=[(0,1,(vi x4))]) (xs:=[x4]) s7 Sh.G5 rfl rfl rfl (Els.cons (c:=[vi x4]) rfl Els.nil) rfl rfl fun w3 H7 s9=>?_)
    obtain⟨x5,q11,e2⟩:=oB e2
    refine cn 5 s9 rfl Sh.G5 rfl rfl rfl rfl (s9.curS (s:=Sh.int) 0 rfl) pR (fun h=>h) (by decide) q11 fun w4 H8 s10=>aa (v:=w4) rfl (ae ?_)
    obtain rfl:=oJ e2
    exact k2 _ _ ⟨_,_,_,Gw.refl _ _,(s10.pick [1,2,3,4,5] rfl),h6,h7,rfl,h10,h11,h12⟩
   replace e2:=aS q8 e2
   refine ar ?_
   obtain rfl:=oJ e2
   exact k2 _ _ ⟨_,_,_,Gw.refl _ _,s7,h6,h7,h8,h10,h11,h12⟩
  intro _ H6 i4
  obtain⟨Z3,V3,w2,g3,s8,h14,h15,h16,h17,h18,h19⟩:=i4
  refine aF (bq (az h19 rfl (aa (v:=vi (Pu.W ((i1:Int)+1))) rfl (ae ?_))))
  obtain rfl:=oJ e1
  exact k1 _ _ ⟨(iv rfl (bE q2 (hp3).bd)),_,_,_,(g1.trans (g2.trans g3)),s8,h14,h15,h16,h17,h18⟩
 obtain⟨hte0,Z4,V4,w5,g4,s11,h20,h21,h22,h23,h24⟩:=jd
 refine af (ao hte0 h24 (ae (ah (bc rfl (Int.lt_irrefl _) (aR (aU (aU (bT (af (aa (v:=.slice none 0 0) rfl (ae (ah (af (aa h22 (aD rfl ((s11.curS (s:=Sh.int) 4 rfl)).len (aa (v:=vi 0) rfl (ae ?_)))))))))))))))))
 obtain⟨y3,q14,e⟩:=oB e
 refine ay (aV (xs:=y1.2) (fun(i5:Nat) (s12:((List Int)×(List (List Int))×(List (Int×Int)))) tm H=>tm 51=vi i5∧∃(Z5 V5:PH) (w6:Value) (w7:Value),Gw Z4 V4 Z5 V5∧Sat Z5 V5 H [pts o1 (.rw 0 [v1,w6]),It.sl Sh.int v1 s12.1,It.sl sI1 w6 s12.2.1,It.mp vi Value.bool b1 y1.1,It.sl (Sh.ro Sh.arr2) w7 s12.2.2,It.sl Sh.int w5 y1.2]∧tm 0=(pV o1 0)∧tm 5=(.map (some b1))∧tm 9=w7∧tm 49=w5∧tm 50=(vN y1.2)) (fun i5 x6 s12 s14 tm H11 q12 q13 j2 e3 k3=>?_) (fun tm H10 jd=>?_) q14 ⟨rfl,_,_,_,_,Gw.refl _ _,((s11.push (aW (s:=Sh.ro Sh.arr2))).pick [1,2,3,4,0,5] rfl),h20,h21,rfl,rfl,rfl⟩)
 ·obtain⟨hti1,Z5,V5,w6,w7,g5,s13,h25,h26,h27,h28,h29⟩:=j2
  unfold P.B5.b1 at e3
  refine af (ao hti1 h29 (ae (ah (be rfl (Int.ofNat_lt.2 q13) (ar (ah (ay (af (aJ (v:=w5) h28 hti1 (s13.curS (s:=Sh.int) 5 rfl) rfl (Pu.ix_nat.trans q12) fun p4 q15=>cj rfl (s13.curS (s:=Sh.int) 5 rfl) pR q15 (Pu.ix_nat.trans q12) (aa (v:=vi x6) rfl (ae (af (aa (v:=.slice none 0 0) rfl (aa (v:=.slice none 0 0) rfl (ae (ah (af (aa h25 (bS rfl (am rfl ?_))))))))))))))))))))
  obtain⟨d3,rfl⟩:=((s13.curS (s:=Sh.int) 1 rfl)).val
  obtain⟨d4,rfl⟩:=((s13.curS (s:=sI1) 2 rfl)).val
  refine ak 0 s13 rfl rfl rfl rfl (aa (v:=vi x6) rfl ?_)
  obtain⟨x7,q16,e3⟩:=oB e3
  refine aJ (v:=vS d4 s12.2.1) rfl rfl (s13.curS (s:=sI1) 2 rfl) rfl q16 fun p5 q17=>fT rfl (s13.curS (s:=sI1) 2 rfl) pR q17 q16 fun w8 h30 h31=>aD rfl (h30).len (aa (v:=vi 0) rfl (ae (ap (P:=fun tm=>tm 0=(pV o1 0)∧tm 5=(.map (some b1))∧tm 9=w7∧tm 11=vi x6∧tm 12=(.slice none 0 0)∧tm 13=(.slice none 0 0)∧tm 49=w5∧tm 50=(vN y1.2)∧tm 51=(vJ i5)∧tm 61=w8∧tm 62=(vN x7)∧tm 63=vi 0∧True) ⟨h25,h26,h27,rfl,rfl,rfl,h28,h29,hti1,rfl,rfl,rfl,trivial⟩ ?_)))
  intro _ i6
  obtain⟨h32,h33,h34,h35,h36,h37,h38,h39,h40,h41,h42,h43,-⟩:=i6
  obtain⟨Z6,V6,W2,g6,u2,c5,c6,-,-,c7⟩:=Sat.call (l1:=[pts o1 (.rw 0 [(vS d3 s12.1),(vS d4 s12.2.1)]),Is Sh.int d3 s12.1,It.mp vi Value.bool b1 y1.1,It.sl (Sh.ro Sh.arr2) w7 s12.2.2,It.sl Sh.int w5 y1.2]) (l2:=[Is sI1 d4 s12.2.1]) (s13.pick [0,1,3,4,5,2] rfl)
  have h44:=c6 0 _ sI1 _ _ rfl
  have g7:Gw Z5 V5 Z6 W2:=⟨g6.z,g6.v.trans u2,g6.o⟩
  have r1:=RdS.redo h44 c5.v q17 q16 h31
  have z1:=c5.zv
  obtain⟨y4,q20,e3⟩:=oB e3
  refine ay (aV (xs:=x7) (fun(i7:Nat) (s15:((List Int)×(List Int))) tm H=>tm 63=vi i7∧∃(Z7 V7:PH) (w9:Value) (w10:Value),Gw Z6 W2 Z7 V7∧Sat Z7 V7 H [pts o1 (.rw 0 [(vS d3 s12.1),(vS d4 s12.2.1)]),Is Sh.int d3 s12.1,It.mp vi Value.bool b1 y1.1,It.sl (Sh.ro Sh.arr2) w7 s12.2.2,It.sl Sh.int w9 s15.1,It.sl Sh.int w10 s15.2,It.sl Sh.int w5 y1.2]∧tm 0=(pV o1 0)∧tm 5=(.map (some b1))∧tm 9=w7∧tm 11=vi x6∧tm 12=w9∧tm 13=w10∧tm 49=w5∧tm 50=(vN y1.2)∧tm 51=(vJ i5)∧tm 61=w8∧tm 62=(vN x7)) (fun i7 x8 s15 s17 tm H13 q18 q19 j3 e4 k4=>?_) (fun tm H12 jd=>?_) q20 ⟨h43,_,_,_,_,Gw.refl _ _,(((c5.push (aW (s:=Sh.int))).push (aW (s:=Sh.int))).pick [2,3,4,5,1,0,6] rfl),h32,h33,h34,h35,h36,h37,h38,h39,h40,h41,h42⟩)
  ·obtain⟨hti2,Z7,V7,w9,w10,g8,s16,h45,h46,h47,h48,h49,h50,h51,h52,h53,h54,h55⟩:=j3
   unfold P.B5.b2 at e4
   refine af (ao hti2 h55 (ae (ah (be rfl (Int.ofNat_lt.2 q19) (ar (ah (ay (af (aJ (v:=w8) h54 hti2 (r1.1.mono g8.v) rfl (Pu.ix_nat.trans q18) fun p6 q21=>cj rfl (r1.1.mono g8.v) s16.v q21 (Pu.ix_nat.trans q18) (aa (v:=vi x8) rfl (ae (af (aa h46 (aa (v:=vi x8) rfl (ck Mk.i (q:=x8) (z:=false) 2 s16 rfl rfl rfl rfl rfl (ae ?_))))))))))))))))
   obtain⟨y5,e5,e4⟩:=oB e4
   refine bf (I:=fun tm H=>∃(Z8 V8:PH) (w11:Value) (w12:Value),Gw Z7 V7 Z8 V8∧Sat Z8 V8 H [pts o1 (.rw 0 [(vS d3 s12.1),(vS d4 s12.2.1)]),Is Sh.int d3 s12.1,It.mp vi Value.bool b1 y1.1,It.sl (Sh.ro Sh.arr2) w7 s12.2.2,It.sl Sh.int w11 y5.1,It.sl Sh.int w12 y5.2,It.sl Sh.int w5 y1.2]∧tm 0=(pV o1 0)∧tm 5=(.map (some b1))∧tm 9=w7∧tm 11=vi x6∧tm 12=w11∧tm 13=w12∧tm 49=w5∧tm 50=(vN y1.2)∧tm 51=(vJ i5)∧tm 61=w8∧tm 62=(vN x7)∧tm 63=(vJ i7)) (fun k5=>?_) ?_
   ·refine bx rfl (fun q22=>?_) (fun q22=>?_)
    ·replace e5:=ax q22 e5
     refine bq (aa h49 (aa (v:=vi x8) rfl (bP (s:=Sh.int) (us:=[vi x8]) (qs:=[(0,1,(vi x8))]) (xs:=[x8]) s16 Sh.G5 rfl rfl rfl (Els.cons (c:=[vi x8]) rfl Els.nil) rfl rfl fun w13 H15 s19=>?_)))
     obtain⟨x9,q23,e5⟩:=oB e5
     refine cn 5 s19 rfl Sh.G5 rfl rfl rfl rfl (s19.curS (s:=Sh.int) 0 rfl) pR (fun h=>h) (by decide) q23 fun w14 H16 s20=>aa (v:=w14) rfl (ae ?_)
     obtain rfl:=oJ e5
     exact k5 _ _ ⟨_,_,_,_,Gw.refl _ _,(s20.pick [1,2,3,4,5,6,7] rfl),h45,h46,h47,h48,rfl,h50,h51,h52,h53,h54,h55,hti2⟩
    replace e5:=aS q22 e5
    refine bq (aa h50 (aa (v:=vi x8) rfl (bP (s:=Sh.int) (us:=[vi x8]) (qs:=[(0,1,(vi x8))]) (xs:=[x8]) s16 Sh.G5 rfl rfl rfl (Els.cons (c:=[vi x8]) rfl Els.nil) rfl rfl fun w15 H17 s21=>?_)))
    obtain⟨x10,q24,e5⟩:=oB e5
    refine cn 6 s21 rfl Sh.G5 rfl rfl rfl rfl (s21.curS (s:=Sh.int) 0 rfl) pR (fun h=>h) (by decide) q24 fun w16 H18 s22=>aa (v:=w16) rfl (ae ?_)
    obtain rfl:=oJ e5
    exact k5 _ _ ⟨_,_,_,_,Gw.refl _ _,(s22.pick [1,2,3,4,5,6,7] rfl),h45,h46,h47,h48,h49,rfl,h51,h52,h53,h54,h55,hti2⟩
   intro _ H14 i8
   obtain⟨Z8,V8,w11,w12,g9,s18,h56,h57,h58,h59,h60,h61,h62,h63,h64,h65,h66,h67⟩:=i8
   refine aF (bq (az h67 rfl (aa (v:=vi (Pu.W ((i7:Int)+1))) rfl (ae ?_))))
   obtain rfl:=oJ e4
   exact k4 _ _ ⟨(iv rfl (bE q19 (r1.1).bd)),_,_,_,_,(g8.trans g9),s18,h56,h57,h58,h59,h60,h61,h62,h63,h64,h65,h66⟩
  obtain⟨hte2,Z9,V9,w17,w18,g10,s23,h68,h69,h70,h71,h72,h73,h74,h75,h76,h77,h78⟩:=jd
  refine af (ao hte2 h78 (ae (ah (bc rfl (Int.lt_irrefl _) (aR (aU (aU (bT ?_))))))))
  have s24:=c7 _ _ (Sat.weak g10 z1 s23)
  refine ah (af (aa h73 (aD rfl ((s24.curS (s:=Sh.int) 5 rfl)).len (co rfl rfl (ae (aI rfl (fun q25=>?_) (fun q25=>?_)))))))
  ·replace e3:=ax q25 e3
   refine aR (aU (bT (bq (az h76 rfl (aa (v:=vi (Pu.W ((i5:Int)+1))) rfl (ae ?_))))))
   obtain rfl:=oJ e3
   exact k3 _ _ ⟨(iv rfl (bE q13 ((s11.curS (s:=Sh.int) 4 rfl)).bd)),_,_,_,_,(g5.trans g6),(s24.pick [0,1,7,2,3,6] rfl),h68,h69,h70,h74,h75⟩
  replace e3:=bb q25 e3
  refine ar (af (aa h68 (bS rfl (am rfl (ak 0 s24 rfl rfl rfl rfl (aD rfl ((s24.curS (s:=sI1) 7 rfl)).len (aa (v:=vN s12.2.1) rfl (ae (ap (P:=fun tm=>tm 0=(pV o1 0)∧tm 5=(.map (some b1))∧tm 9=w7∧tm 11=vi x6∧tm 12=w17∧tm 13=w18∧tm 16=(vN s12.2.1)∧tm 49=w5∧tm 50=(vN y1.2)∧tm 51=(vJ i5)∧True) ⟨h68,h69,h70,h71,h72,h73,rfl,h74,h75,h76,trivial⟩ ?_)))))))))
  intro _ i9
  obtain⟨h79,h80,h81,h82,h83,h84,h85,h86,h87,h88,-⟩:=i9
  refine af (aa h79 (bS rfl (am rfl (ak 0 s24 rfl rfl rfl rfl (aa h82 (aa h83 ?_))))))
  obtain⟨x11,q26,e3⟩:=oB e3
  refine aJ (v:=vS d4 s12.2.1) rfl rfl (s24.curS (s:=sI1) 7 rfl) rfl q26 fun p7 q27=>?_
  have s25:=s24.pull 4 rfl
  refine kj 6 s25 rfl rfl rfl q27 q26 fun H20 s26=>ae (af (aa h79 (aa h79 (bS rfl (am rfl (ak 0 s26 rfl rfl rfl rfl (aa h84 ?_)))))))
  have s27:=s26.pull 4 rfl
  refine o_bslHE s27 rfl fun w19 H21 h89 s28=>?_
  obtain⟨x12,q28,e3⟩:=oB e3
  refine o_appHE 5 h89 s28 rfl rfl rfl (by decide) q28 fun w20 H22 p8 s29 q29 q30 h90 h91=>bS rfl (am rfl ?_)
  obtain⟨d5,rfl⟩:=((s29.curS (s:=sI1) 5 rfl)).val
  refine o_stBE (us':=[(vS d3 s12.1),(vS d5 x12)]) 0 s29 rfl rfl rfl rfl rfl rfl rfl fun H23 h92 s30=>?_
  have h93:=vl_frame (s:=Sh.int) (j:=((Pu.st s12.2.1 x6 y4.1).length:Int)) 0 5 s29 rfl rfl rfl q29 h90 h92
  have h94:=(RdS.redo (s:=Sh.int) (s30.curS 5 rfl) pR q29 q30 h93).1
  refine ae (ap (P:=fun tm=>tm 0=(pV o1 0)∧tm 5=(.map (some b1))∧tm 9=w7∧tm 11=vi x6∧tm 13=w18∧tm 16=(vN s12.2.1)∧tm 49=w5∧tm 50=(vN y1.2)∧tm 51=(vJ i5)∧True) ⟨h79,h80,h81,h82,h84,h85,h86,h87,h88,trivial⟩ ?_)
  intro _ i10
  obtain⟨h95,h96,h97,h98,h99,h100,h101,h102,h103,-⟩:=i10
  refine ah (af (aa h99 (aD rfl (h94).len (aa (v:=vi 0) rfl (ae ?_)))))
  obtain⟨Z10,V10,W3,g11,u3,c8,c9,-,-,c10⟩:=Sat.call (l1:=[pts o1 (.rw 0 [(vS d3 s12.1),(vS d5 x12)]),Is Sh.int d3 s12.1,It.mp vi Value.bool b1 y1.1,It.sl (Sh.ro Sh.arr2) w7 s12.2.2,It.sl Sh.int w5 y1.2]) (l2:=[Is sI1 d5 x12]) s30
  have h104:=c9 0 _ sI1 _ _ rfl
  have g12:Gw Z6 V6 Z10 W3:=⟨g11.z,g11.v.trans u3,g11.o⟩
  have r2:=RdS.redo h104 c8.v q29 q30 h93
  have r3:=RdS.redo h104 c8.v q29 q30 h93
  have z2:=c8.zv
  obtain⟨y6,q33,e3⟩:=oB e3
  refine ay (aV (xs:=y4.2) (fun(i11:Nat) (s31:(List Int)) tm H=>tm 106=vi i11∧∃(Z11 V11:PH),Gw Z10 W3 Z11 V11∧Sat Z11 V11 H [pts o1 (.rw 0 [(vS d3 s12.1),(vS d5 x12)]),It.sl Sh.int (vS d3 s12.1) s31,It.mp vi Value.bool b1 y1.1,It.sl (Sh.ro Sh.arr2) w7 s12.2.2,It.sl Sh.int w5 y1.2]∧tm 0=(pV o1 0)∧tm 5=(.map (some b1))∧tm 9=w7∧tm 11=vi x6∧tm 16=(vN s12.2.1)∧tm 49=w5∧tm 50=(vN y1.2)∧tm 51=(vJ i5)∧tm 104=w18∧tm 105=(vN y4.2)) (fun i11 x13 s31 s33 tm H25 q31 q32 j4 e6 k6=>?_) (fun tm H24 jd=>?_) q33 ⟨rfl,_,_,Gw.refl _ _,c8,h95,h96,h97,h98,h100,h101,h102,h103,rfl,rfl⟩)
  ·obtain⟨hti3,Z11,V11,g13,s32,h105,h106,h107,h108,h109,h110,h111,h112,h113,h114⟩:=j4
   unfold P.B5.b3 at e6
   refine af (ao hti3 h114 (ae (ah (be rfl (Int.ofNat_lt.2 q32) (ar (ah (ay (af (aJ (v:=w18) h113 hti3 (r3.1.mono g13.v) rfl (Pu.ix_nat.trans q31) fun p9 q34=>cj rfl (r3.1.mono g13.v) s32.v q34 (Pu.ix_nat.trans q31) (aa (v:=vi x13) rfl (ae (bq (aa h105 (bS rfl (am rfl (ak 0 s32 rfl rfl rfl rfl (aa (v:=vi x13) rfl (aa h109 ?_))))))))))))))))))
   obtain⟨x14,q35,e6⟩:=oB e6
   refine aJ (v:=vS d3 s12.1) rfl rfl (s32.curS (s:=Sh.int) 1 rfl) rfl q35 fun p10 q36=>jq 1 s32 rfl Sh.G5 rfl rfl rfl q36 q35 rfl rfl fun H26 s34=>ae (aF (bq (az hti3 rfl (aa (v:=vi (Pu.W ((i11:Int)+1))) rfl (ae ?_)))))
   obtain rfl:=oJ e6
   exact k6 _ _ ⟨(iv rfl (bE q32 (r3.1).bd)),_,_,g13,s34,h105,h106,h107,h108,h109,h110,h111,h112,h113,h114⟩
  obtain⟨hte3,Z12,V12,g14,s35,h115,h116,h117,h118,h119,h120,h121,h122,h123,h124⟩:=jd
  refine af (ao hte3 h124 (ae (ah (bc rfl (Int.lt_irrefl _) (aR (aU (aU (bT ?_))))))))
  have s36:=c10 _ _ (Sat.weak g14 z2 s35)
  refine bq (aa h117 (aa h118 (aa h119 (bR (qs:=[(0,1,(vi x6)),(1,1,(vN s12.2.1))]) rfl rfl (bP (s:=Sh.ro Sh.arr2) (us:=[vi x6,(vN s12.2.1)]) (qs:=[(0,2,(.agg #[vi x6,(vN s12.2.1)]))]) (xs:=[(x6,(s12.2.1.length:Int))]) s36 (Sh.ro_lt _) rfl rfl rfl (Els.cons (c:=[vi x6,(vN s12.2.1)]) rfl Els.nil) rfl rfl fun w21 H28 s37=>?_)))))
  obtain⟨Z13,V13,g15,s38,h125⟩:=s37.frzS 0 rfl
  replace h125:=h125.of_ro
  obtain⟨x15,q37,e3⟩:=oB e3
  refine cn 3 s38 rfl (Sh.ro_lt _) rfl rfl rfl rfl h125 s38.z (fun h=>h) (by decide) q37 fun w22 H29 s39=>aa (v:=w22) rfl (ae (aF (bq (az h122 rfl (aa (v:=vi (Pu.W ((i5:Int)+1))) rfl (ae ?_))))))
  obtain rfl:=oJ e3
  exact k3 _ _ ⟨(iv rfl (bE q13 ((s11.curS (s:=Sh.int) 4 rfl)).bd)),_,_,_,_,(g5.trans (g6.trans (g11.trans g15))),(s39.pick [0,1,5,2,3,4] rfl),h115,h116,rfl,h120,h121⟩
 obtain⟨hte1,Z14,V14,w23,w24,g16,s40,h126,h127,h128,h129,h130⟩:=jd
 refine af (ao hte1 h130 (ae (ah (bc rfl (Int.lt_irrefl _) (aR (aU (aU (bT (af (aa h128 (aa (v:=w24) rfl (ae (aL ?_)))))))))))))
 obtain⟨d6,rfl⟩:=((s40.curS (s:=Sh.int) 1 rfl)).val
 obtain⟨d7,rfl⟩:=((s40.curS (s:=sI1) 2 rfl)).val
 obtain rfl:=oJ e
 exact⟨.inr rfl,_,(ar1 rfl),_,_,_,rfl,((s40.pick [0,1,2,4] rfl).weak (g4.trans g16) hs.zv)⟩
structure Nd.C3 (T:FuncId→Option AFunc):Prop where
 own:Has T I.C3 F.C3
theorem X.C3 (nd:Nd.C3 T){v1:Value}{a0:(List Ty.E9)}{a1:Ty.E9}(hs:Sat Z V H [])(hp1:RdS Sh.E9 V v1 a0){r:Int}(e:P.C3 a0 a1=some r):
 G T I.C3 [v1,(.agg #[vi a1.block,vi a1.by_])] H (fun rv H'=>rv=vi r∧Sat Z V H' []):=by
 unfold P.C3 at e
 refine bB nd.own (af (cx hs rfl rfl fun b1 H1 s1=>aa (v:=vi 0) rfl (ae (ah (af (aa (v:=v1) rfl (aD rfl (hp1).len (aa (v:=vi 0) rfl (ae ?_)))))))))
 obtain⟨x2,q3,e⟩:=oB e
 obtain⟨rfl,q5⟩:=bp q3
 obtain⟨y1,q6,e⟩:=oB e
 refine bf (I:=fun tm H=>∃(s4:Unit),y1= .out s4∧(∃(Z2 V2:PH),Gw Z V Z2 V2∧Sat Z2 V2 H [pts b1 (.rw 0 [vi a1.block,vi a1.by_])]∧tm 0=v1∧tm 3=(pV b1 0)∧tm 7=(vN a0))) (fun k4=>?_) ?_
 ·refine ay (cY (xs:=Pu.ran (a0.length:Int)) (fun(i1:Nat) (s2:Unit) tm H=>tm 8=vi i1∧∃(Z1 V1:PH),Gw Z V Z1 V1∧Sat Z1 V1 H [pts b1 (.rw 0 [vi a1.block,vi a1.by_])]∧tm 0=v1∧tm 3=(pV b1 0)∧tm 7=(vN a0)) (fun i1 x1 s2 y2 tm H3 q1 q2 j1 e1 k1 k2 k3=>?_) (fun s2 tm H2 jf jd=>?_) q6 ⟨rfl,_,_,Gw.refl _ _,s1,rfl,rfl,rfl⟩)
  ·obtain⟨hti0,Z1,V1,g1,s3,h1,h2,h3⟩:=j1
   unfold P.C3.b0 at e1
   have hti0:=iv hti0 (cD q1).symm
   refine af (ao hti0 h3 (ae (ah (be rfl (cf q1) (ar (ah (ay (af (aa hti0 (aa (v:=vi x1) rfl (ae (ah (aA s3 fun n1 H5 s6 q7 d1=>aZ (q7 _ _ (an.2 ⟨s6.curB 0 rfl,by simp⟩)) 0 s6 rfl h2 rfl rfl (aj h1 (aj (v:=vi x1) rfl ?_)))))))))))))))
   obtain⟨x3,q8,e1⟩:=oB e1
   refine aq (v:=v1) rfl rfl (hp1.mono g1.v) rfl q8 fun p1 q9=>d_lda (RdS.low (hp1.mono g1.v) s6.v q7) rfl hp1 (g1.v.trans s6.v) rfl q9 q8 fun c1 h7=>?_
   obtain rfl:=h7
   refine ko (q_mini_task ..) rfl rfl (aQ aK (bx rfl (fun q10=>?_) (fun q10=>?_)))
   ·replace e1:=ax q10 e1
    refine af (aa (v:=vi x1) rfl (aa (v:=vi x1) rfl (ae (ap (P:=fun tm=>tm 4=vi x1∧True) ⟨rfl,trivial⟩ ?_))))
    intro _ i2
    obtain⟨h8,-⟩:=i2
    refine aL ?_
    have e2:=ci (k3 _ (sJ e1)) e
    obtain rfl:=oJ e2
    exact⟨.inr rfl,_,(ar1 h8),rfl,((s6.pick [] rfl).weak g1 hs.zv)⟩
   replace e1:=aS q10 e1
   refine ar (aF (bq (az hti0 rfl (aa (v:=vi (Pu.W (x1+1))) rfl (ae ?_)))))
   exact k1 _ _ _ (sJ e1) ⟨(iv rfl (bU q1 q5)),_,_,g1,s6,h1,h2,h3⟩
  ·obtain⟨hte0,Z3,V3,g3,s7,h9,h10,h11⟩:=jd
   refine af (ao hte0 h11 (ae (ah (bc rfl (bA _) (aR (aU (aU (bT ?_))))))))
   exact k4 _ _ ⟨_,jf,_,_,g3,s7,h9,h10,h11⟩
 intro _ H4 i3
 obtain⟨s4,f1,Z2,V2,g2,s5,h4,h5,h6⟩:=i3
 replace e:=bD f1 e
 refine af (aa (v:=vi (-1)) rfl (ae (aL ?_)))
 obtain rfl:=oJ e
 exact⟨.inr rfl,_,(ar1 rfl),rfl,((s5.pick [] rfl).weak g2 hs.zv)⟩
structure Nd.D5 (T:FuncId→Option AFunc):Prop where
 own:Has T I.D5 F.D5
 C3:Nd.C3 T
theorem X.D5 (nd:Nd.D5 T){v1:Value}{a0:(List Ty.E9)}{a1:Ty.E9}(hs:Sat Z V H [])(hp1:RdS Sh.E9 V v1 a0){r:Bool}(e:P.D5 a0 a1=some r):
 G T I.D5 [v1,(.agg #[vi a1.block,vi a1.by_])] H (fun rv H'=>rv=(.bool r)∧Sat Z V H' []):=by
 unfold P.D5 at e
 refine bB nd.own (af (cx hs rfl rfl fun b1 H1 s1=>aa (v:=.bool false) rfl (ae (af (aa (v:=v1) rfl (ak 0 s1 rfl rfl rfl rfl ?_))))))
 obtain⟨x1,q1,e⟩:=oB e
 obtain⟨Z1,V1,W1,g1,u1,c1,c2,-,c4,c3⟩:=Sat.call (l1:=[]) s1
 refine au (mc rfl (mc rfl m0)) (X.C3 nd.C3 c1 (hp1.mono (g1.v.trans u1)) q1) fun _ H2 i1=>?_
 obtain⟨rfl,s2⟩:=i1
 have s3:=c3 _ _ s2
 refine cd rfl rfl (aa (v:=.bool (decide (0≤x1))) rfl (ae (aL ?_)))
 obtain rfl:=oJ e
 exact⟨.inr rfl,_,(ar1 rfl),rfl,((s3.pick [] rfl).weak g1 hs.zv)⟩
structure Nd.B9 (T:FuncId→Option AFunc):Prop where
 own:Has T I.B9 F.B9
 G7:Nd.G7 T
 B5:Nd.B5 T
 D5:Nd.D5 T
theorem X.B9 {T:FuncId→Option AFunc}(nd:Nd.B9 T){φ:Nat}{Z V:PH}{H:Hp}{v1:Value}{v2:Value}{v3:Value}{a0:Ty.K4}(hs:Sat Z V H [])(hp1:RdS Sh.int V v1 a0.accept)(hp2:RdS sI1 V v2 a0.next_)(hp3:RdS sI2 V v3 a0.prev){r:(List Int)}(e:P.B9 φ a0=some r):
 G T I.B9 [(.agg #[v1,v2,v3])] H (fun rv H'=>∃(u1:Value),rv=u1∧Sat Z V H' [It.sl Sh.int u1 r]):=by
 unfold P.B9 at e
 refine bB nd.own (af ?_)
 obtain⟨d1,rfl⟩:=(hp1).val
 obtain⟨d2,rfl⟩:=(hp2).val
 obtain⟨d3,rfl⟩:=(hp3).val
 refine cx hs rfl rfl fun b1 H1 s1=>aa (v:=.slice none 0 0) rfl (ae (af (am rfl (ak 0 s1 rfl rfl rfl rfl ?_))))
 obtain⟨x1,q1,e⟩:=oB e
 obtain⟨Z1,V1,W1,g1,u1,c1,c2,-,c4,c3⟩:=Sat.call (l1:=[]) s1
 refine au (mc rfl m0) (X.G7 nd.G7 c1 (hp1.mono (g1.v.trans u1)) q1) fun _ H2 i1=>?_
 obtain⟨b2,w1,w2,rfl,s2⟩:=i1
 have s3:=c3 _ _ s2
 refine aa (v:=pV b2 0) rfl (ae (af (aa (v:=.slice none 0 0) rfl (ae (ah (af (aa (v:=pV b2 0) rfl (bS rfl (am rfl ?_)))))))))
 obtain⟨d4,rfl⟩:=((s3.curS (s:=Sh.int) 1 rfl)).val
 obtain⟨d5,rfl⟩:=((s3.curS (s:=sI1) 2 rfl)).val
 refine ak 0 s3 rfl rfl rfl rfl (aD rfl ((s3.curS (s:=sI1) 2 rfl)).len (aa (v:=vi 0) rfl (ae (ap (P:=fun tm=>tm 1=(pV b1 0)∧tm 3=(pV b2 0)∧tm 4=(.slice none 0 0)∧tm 22=(vN x1.blocks)∧tm 23=vi 0∧True) ⟨rfl,rfl,rfl,rfl,rfl,trivial⟩ ?_))))
 intro _ i2
 obtain⟨h1,h2,h3,h4,h5,-⟩:=i2
 obtain⟨x3,q4,e⟩:=oB e
 obtain⟨rfl,q6⟩:=bp q4
 obtain⟨y1,q7,e⟩:=oB e
 refine ay (aV (xs:=Pu.ran (x1.blocks.length:Int)) (fun(i3:Nat) (s4:(List Ty.E9)) tm H=>tm 23=vi i3∧∃(Z2 V2:PH) (w3:Value),Gw Z1 V1 Z2 V2∧Sat Z2 V2 H [pts b1 (.rw 0 [(vS d1 a0.accept),(vS d2 a0.next_),(vS d3 a0.prev)]),pts b2 (.rw 0 [(vS d4 x1.of_),(vS d5 x1.blocks)]),Is Sh.int d4 x1.of_,Is sI1 d5 x1.blocks,It.sl (Sh.ro Sh.E9) w3 s4]∧tm 1=(pV b1 0)∧tm 3=(pV b2 0)∧tm 4=w3∧tm 22=(vN x1.blocks)) (fun i3 x2 s4 s6 tm H4 q2 q3 j1 e1 k1=>?_) (fun tm H3 jd=>?_) q7 ⟨h5,_,_,_,Gw.refl _ _,((s3.push (aW (s:=Sh.ro Sh.E9))).pick [4,1,2,3,0] rfl),h1,h2,h3,h4⟩)
 ·obtain⟨hti0,Z2,V2,w3,g2,s5,h6,h7,h8,h9⟩:=j1
  unfold P.B9.b0 at e1
  have hti0:=iv hti0 (cD q2).symm
  refine af (ao hti0 h9 (ae (ah (be rfl (cf q2) (ar (ah (ay (af (aa hti0 (aa (v:=vi x2) rfl (ae (af (am h6 (ak 0 s5 rfl rfl rfl rfl (aD rfl ((hp3.mono (g1.trans g2).v)).len (aa (v:=vi 0) rfl (ae ?_)))))))))))))))))
  obtain⟨x5,q10,e1⟩:=oB e1
  obtain⟨rfl,q12⟩:=bp q10
  obtain⟨y2,q13,e1⟩:=oB e1
  refine ay (aV (xs:=Pu.ran (a0.prev.length:Int)) (fun(i4:Nat) (s7:(List Ty.E9)) tm H=>tm 29=vi i4∧∃(Z3 V3:PH) (w4:Value),Gw Z2 V2 Z3 V3∧Sat Z3 V3 H [pts b1 (.rw 0 [(vS d1 a0.accept),(vS d2 a0.next_),(vS d3 a0.prev)]),pts b2 (.rw 0 [(vS d4 x1.of_),(vS d5 x1.blocks)]),Is Sh.int d4 x1.of_,Is sI1 d5 x1.blocks,It.sl (Sh.ro Sh.E9) w4 s7]∧tm 1=(pV b1 0)∧tm 3=(pV b2 0)∧tm 4=w4∧tm 5=vi x2∧tm 22=(vN x1.blocks)∧tm 23=vi x2∧tm 28=(vN a0.prev)) (fun i4 x4 s7 s9 tm H6 q8 q9 j2 e2 k2=>?_) (fun tm H5 jd=>?_) q13 ⟨rfl,_,_,_,Gw.refl _ _,s5,h6,h7,h8,rfl,h9,hti0,rfl⟩)
  ·obtain⟨hti1,Z3,V3,w4,g3,s8,h10,h11,h12,h13,h14,h15,h16⟩:=j2
   unfold P.B9.b1 at e2
   have hti1:=iv hti1 (cD q8).symm
   refine af (ao hti1 h16 (ae (ah (be rfl (cf q8) (ar (ah (ay (af (aa hti1 (aa (v:=vi x4) rfl (ae (bq (aa h12 (aa h13 (aa (v:=vi x4) rfl (bR (qs:=[(0,1,(vi x2)),(1,1,(vi x4))]) rfl rfl (bP (s:=Sh.ro Sh.E9) (us:=[vi x2,vi x4]) (qs:=[(0,2,(.agg #[vi x2,vi x4]))]) (xs:=[(Ty.E9.mk x2 x4)]) s8 (Sh.ro_lt _) rfl rfl rfl (Els.cons (c:=[vi x2,vi x4]) rfl Els.nil) rfl rfl fun w5 H7 s10=>?_)))))))))))))))))
   obtain⟨Z4,V4,g4,s11,h17⟩:=s10.frzS 0 rfl
   replace h17:=h17.of_ro
   obtain⟨x6,q14,e2⟩:=oB e2
   refine cn 4 s11 rfl (Sh.ro_lt _) rfl rfl rfl rfl h17 s11.z (fun h=>h) (by decide) q14 fun w6 H8 s12=>aa (v:=w6) rfl (ae (aF (bq (az hti1 rfl (aa (v:=vi (Pu.W (x4+1))) rfl (ae ?_))))))
   obtain rfl:=oJ e2
   exact k2 _ _ ⟨(iv rfl (bU q8 q12)),_,_,_,(g3.trans g4),s12,h10,h11,rfl,h13,h14,h15,h16⟩
  obtain⟨hte1,Z5,V5,w7,g5,s13,h18,h19,h20,h21,h22,h23,h24⟩:=jd
  refine af (ao hte1 h24 (ae (ah (bc rfl (bA _) (aR (aU (aU (bT (aF (bq (az h23 rfl (aa (v:=vi (Pu.W (x2+1))) rfl (ae ?_)))))))))))))
  obtain rfl:=oJ e1
  exact k1 _ _ ⟨(iv rfl (bU q2 q6)),_,_,_,(g2.trans g5),s13,h18,h19,h20,h22⟩
 obtain⟨hte0,Z6,V6,w8,g6,s14,h25,h26,h27,h28⟩:=jd
 refine af (ao hte0 h28 (ae (ah (bc rfl (bA _) (aR (aU (aU (bT (ah ?_)))))))))
 obtain⟨y3,q17,e⟩:=oB e
 refine bf (I:=fun tm H=>∃(s17:((List Int)×(List (List Int))×(List Ty.E9))),y3= .out s17∧(∃(Z8 V8:PH) (w12:Value) (w13:Value) (w14:Value),Gw Z6 V6 Z8 V8∧Sat Z8 V8 H [pts b1 (.rw 0 [(vS d1 a0.accept),(vS d2 a0.next_),(vS d3 a0.prev)]),pts b2 (.rw 0 [w12,w13]),It.sl Sh.int w12 s17.1,It.sl sI1 w13 s17.2.1,It.sl (Sh.ro Sh.E9) w14 s17.2.2]∧tm 1=(pV b1 0)∧tm 3=(pV b2 0)∧tm 4=w14)) (fun k6=>?_) ?_
 ·refine ay (cc (fun(s15:((List Int)×(List (List Int))×(List Ty.E9))) tm H=>∃(Z7 V7:PH) (w9:Value) (w10:Value) (w11:Value),Gw Z6 V6 Z7 V7∧Sat Z7 V7 H [pts b1 (.rw 0 [(vS d1 a0.accept),(vS d2 a0.next_),(vS d3 a0.prev)]),pts b2 (.rw 0 [w9,w10]),It.sl Sh.int w9 s15.1,It.sl sI1 w10 s15.2.1,It.sl (Sh.ro Sh.E9) w11 s15.2.2]∧tm 1=(pV b1 0)∧tm 3=(pV b2 0)∧tm 4=w11) (fun s15 y4 tm H12 j3 e3 k3 k4 k5=>?_) q17 ⟨_,_,_,_,_,Gw.refl _ _,s14,h25,h26,h27⟩)
  obtain⟨Z7,V7,w9,w10,w11,g7,s16,h29,h30,h31⟩:=j3
  unfold P.B9.b2 at e3
  refine ah (af (aa h31 (aD rfl ((s16.curS (s:=Sh.ro Sh.E9) 4 rfl)).len (cC rfl rfl (ae (aI rfl (fun q18=>?_) (fun q18=>?_)))))))
  ·replace e3:=ax q18 e3
   refine ar (ay (af (aa h31 (aa h31 (aD rfl ((s16.curS (s:=Sh.ro Sh.E9) 4 rfl)).len (bz rfl rfl ?_))))))
   obtain⟨x8,q19,e3⟩:=oB e3
   refine aJ (v:=w11) rfl rfl (s16.curS (s:=Sh.ro Sh.E9) 4 rfl) rfl q19 fun p1 q20=>gJ (p:=p1) 4 s16 rfl rfl rfl q20 q19 fun Z9 V9 c5 g9 s19 h35=>?_
   obtain rfl:=h35
   refine bv s19 fun b3 H14 s20=>aP (us':=[vi x8.block,vi x8.by_]) 0 s20 rfl rfl rfl rfl rfl rfl rfl fun H15 s21=>ae (ap (P:=fun tm=>tm 1=(pV b1 0)∧tm 3=(pV b2 0)∧tm 4=w11∧tm 7=(pV b3 0)∧True) ⟨h29,h30,h31,rfl,trivial⟩ ?_)
   intro _ i6
   obtain⟨h36,h37,h38,h39,-⟩:=i6
   refine af (aa h38 (aa h38 (aD rfl ((s21.curS (s:=Sh.ro Sh.E9) 5 rfl)).len (bz rfl rfl ?_))))
   obtain⟨x9,q21,e3⟩:=oB e3
   refine o_slchX rfl rfl (s21.curS (s:=Sh.ro Sh.E9) 5 rfl) pR rfl q21 fun w15 h40 h41=>?_
   have s22:=Sat.conv (u:=It.sl (Sh.ro Sh.E9) w15 x9) 5 rfl (fun F h _ q=>h41.1 F h q) s21
   refine aa (v:=w15) rfl (ae (af (aa (v:=.slice none 0 0) rfl (ae (ah (ah (ap (P:=fun tm=>tm 1=(pV b1 0)∧tm 3=(pV b2 0)∧tm 4=w15∧tm 7=(pV b3 0)∧tm 8=(.slice none 0 0)∧True) ⟨h36,h37,rfl,h39,rfl,trivial⟩ ?_)))))))
   intro _ i7
   obtain⟨h42,h43,h44,h45,h46,-⟩:=i7
   refine aA s22 fun n1 H16 s23 q22 d6=>aj h43 (cI rfl (bt rfl ?_))
   obtain⟨d7,rfl⟩:=((s23.curS (s:=Sh.int) 3 rfl)).val
   obtain⟨d8,rfl⟩:=((s23.curS (s:=sI1) 4 rfl)).val
   refine aZ (q22 _ _ (an.2 ⟨s23.curB 2 rfl,by simp⟩)) 2 s23 rfl rfl rfl rfl (bt h45 (aZ (q22 _ _ (an.2 ⟨s23.curB 0 rfl,by simp⟩)) 0 s23 rfl rfl rfl rfl ?_))
   obtain⟨x10,q23,e3⟩:=oB e3
   refine aq (v:=vS d8 s15.2.1) rfl rfl (s23.curS (s:=sI1) 4 rfl) rfl q23 fun p2 q24=>dt ((s23.curS 4 rfl).low pR q22) rfl (s23.curS (s:=sI1) 4 rfl) pR q24 q23 fun w16 h47 h48=>dI rfl (h47).len (aj (v:=vi 0) rfl (aQ aK (ap (P:=fun tm=>tm 1=(pV b1 0)∧tm 3=(pV b2 0)∧tm 4=w15∧tm 7=(pV b3 0)∧tm 8=(.slice none 0 0)∧tm 61=w16∧tm 62=(vN x10)∧tm 63=vi 0∧True) ⟨h42,h43,h44,h45,h46,rfl,rfl,rfl,trivial⟩ ?_)))
   intro _ i8
   obtain⟨h49,h50,h51,h52,h53,h54,h55,h56,-⟩:=i8
   obtain⟨Z10,V10,W2,g10,u2,c6,c7,-,-,c8⟩:=Sat.call (l1:=[pts b3 (.rw 0 [vi x8.block,vi x8.by_]),pts b1 (.rw 0 [(vS d1 a0.accept),(vS d2 a0.next_),(vS d3 a0.prev)]),pts b2 (.rw 0 [(vS d7 s15.1),(vS d8 s15.2.1)]),Is Sh.int d7 s15.1,It.sl (Sh.ro Sh.E9) w15 x9]) (l2:=[Is sI1 d8 s15.2.1]) (s23.pick [0,1,2,3,5,4] rfl)
   have h57:=c7 0 _ sI1 _ _ rfl
   have g11:Gw Z9 V9 Z10 W2:=⟨g10.z,g10.v.trans u2,g10.o⟩
   have r1:=RdS.redo h57 c6.v q24 q23 h48
   have z1:=c6.zv
   obtain⟨y5,q27,e3⟩:=oB e3
   refine ay (aV (xs:=x10) (fun(i9:Nat) (s24:(List Int)) tm H=>tm 63=vi i9∧∃(Z11 V11:PH) (w17:Value),Gw Z10 W2 Z11 V11∧Sat Z11 V11 H [pts b1 (.rw 0 [(vS d1 a0.accept),(vS d2 a0.next_),(vS d3 a0.prev)]),pts b2 (.rw 0 [(vS d7 s15.1),(vS d8 s15.2.1)]),Is Sh.int d7 s15.1,It.sl (Sh.ro Sh.E9) w15 x9,pts b3 (.rw 0 [vi x8.block,vi x8.by_]),It.sl Sh.int w17 s24]∧tm 1=(pV b1 0)∧tm 3=(pV b2 0)∧tm 4=w15∧tm 7=(pV b3 0)∧tm 8=w17∧tm 61=w16∧tm 62=(vN x10)) (fun i9 x11 s24 s26 tm H18 q25 q26 j4 e4 k7=>?_) (fun tm H17 jd=>?_) q27 ⟨h56,_,_,_,Gw.refl _ _,((c6.push (aW (s:=Sh.int))).pick [2,3,4,5,1,0] rfl),h49,h50,h51,h52,h53,h54,h55⟩)
   ·obtain⟨hti3,Z11,V11,w17,g12,s25,h58,h59,h60,h61,h62,h63,h64⟩:=j4
    unfold P.B9.b3 at e4
    refine af (ao hti3 h64 (ae (ah (be rfl (Int.ofNat_lt.2 q26) (ar (ah (ay (af (aJ (v:=w16) h63 hti3 (r1.1.mono g12.v) rfl (Pu.ix_nat.trans q25) fun p3 q28=>cj rfl (r1.1.mono g12.v) s25.v q28 (Pu.ix_nat.trans q25) (aa (v:=vi x11) rfl (ae (bq (aa h62 (am h58 (ak 0 s25 rfl rfl rfl rfl (am h61 (ak 4 s25 rfl rfl rfl rfl ?_)))))))))))))))))
    obtain⟨x12,q29,e4⟩:=oB e4
    refine aJ (v:=vS d3 a0.prev) rfl rfl (hp3.mono (g1.trans (g6.trans (g7.trans (g9.trans (g11.trans g12))))).v) rfl q29 fun p4 q30=>dh rfl (hp3.mono (g1.trans (g6.trans (g7.trans (g9.trans (g11.trans g12))))).v) s25.v q30 q29 fun w18 h65=>aa (v:=vi x11) rfl ?_
    obtain⟨x13,q31,e4⟩:=oB e4
    refine aJ (v:=w18) rfl rfl h65 rfl q31 fun p5 q32=>dh rfl h65 s25.v q32 q31 fun w19 h66=>?_
    obtain⟨x14,q33,e4⟩:=oB e4
    refine cn 5 s25 rfl Sh.G5 rfl rfl rfl rfl h66 s25.v (fun h=>h) (by decide) q33 fun w20 H19 s27=>aa (v:=w20) rfl (ae (aF (bq (az hti3 rfl (aa (v:=vi (Pu.W ((i9:Int)+1))) rfl (ae ?_))))))
    obtain rfl:=oJ e4
    exact k7 _ _ ⟨(iv rfl (bE q26 (r1.1).bd)),_,_,_,g12,s27,h58,h59,h60,h61,rfl,h63,h64⟩
   obtain⟨hte3,Z12,V12,w21,g13,s28,h67,h68,h69,h70,h71,h72,h73⟩:=jd
   refine af (ao hte3 h73 (ae (ah (bc rfl (Int.lt_irrefl _) (aR (aU (aU (bT ?_))))))))
   have s29:=c8 _ _ (Sat.weak g13 z1 s28)
   refine af (aa h68 (aa h71 ?_))
   obtain⟨x15,q34,e3⟩:=oB e3
   obtain⟨Z13,V13,W3,g14,u3,c9,c10,-,c12,c11⟩:=Sat.call (l1:=[pts b2 (.rw 0 [(vS d7 s15.1),(vS d8 s15.2.1)]),Is Sh.int d7 s15.1,Is sI1 d8 s15.2.1]) (l2:=[pts b1 (.rw 0 [(vS d1 a0.accept),(vS d2 a0.next_),(vS d3 a0.prev)]),It.sl (Sh.ro Sh.E9) w15 x9,pts b3 (.rw 0 [vi x8.block,vi x8.by_]),It.sl Sh.int w21 y5]) (s29.pick [1,2,6,0,3,4,5] rfl)
   refine au (mc rfl (mc rfl m0)) (X.B5 nd.B5 (a0:=Ty.K5.mk s15.1 s15.2.1) c9 (c10 3 _ Sh.int _ _ rfl) q34) fun w24 H21 i10=>?_
   obtain⟨w22,w23,_,rfl,s30⟩:=i10
   have s31:=c11 _ _ s30
   refine aD rfl ((s31.curS (s:=Sh.ro Sh.arr2) 3 rfl)).len (aa (v:=vi 0) rfl (ae ?_))
   obtain⟨y6,q37,e3⟩:=oB e3
   refine ay (aV (xs:=x15.2) (fun(i11:Nat) (s32:(List Ty.E9)) tm H=>tm 83=vi i11∧∃(Z14 V14:PH) (w25:Value),Gw Z13 V13 Z14 V14∧Sat Z14 V14 H [pts b1 (.rw 0 [(vS d1 a0.accept),(vS d2 a0.next_),(vS d3 a0.prev)]),pts b2 (.rw 0 [w22,w23]),It.sl Sh.int w22 x15.1.of_,It.sl sI1 w23 x15.1.blocks,It.sl (Sh.ro Sh.E9) w25 s32,It.sl (Sh.ro Sh.arr2) w24 x15.2]∧tm 1=(pV b1 0)∧tm 3=(pV b2 0)∧tm 4=w25∧tm 81=w24∧tm 82=(vN x15.2)) (fun i11 x16 s32 s34 tm H23 q35 q36 j5 e5 k8=>?_) (fun tm H22 jd=>?_) q37 ⟨rfl,_,_,_,Gw.refl _ _,(s31.pick [4,0,1,2,5,3] rfl),h67,h68,h69,rfl,rfl⟩)
   ·obtain⟨hti4,Z14,V14,w25,g15,s33,h74,h75,h76,h77,h78⟩:=j5
    unfold P.B9.b4 at e5
    refine af (ao hti4 h78 (ae (ah (be rfl (Int.ofNat_lt.2 q36) (ar (ah (ay (af (aJ (v:=w24) h77 hti4 (s33.curS (s:=Sh.ro Sh.arr2) 5 rfl) rfl (Pu.ix_nat.trans q35) fun p6 q38=>gJ (p:=p6) 5 s33 rfl rfl rfl q38 (Pu.ix_nat.trans q35) fun Z15 V15 c13 g16 s35 h79=>?_)))))))))
    obtain rfl:=h79
    refine bv s35 fun b4 H24 s36=>aP (us':=[vi x16.1,vi x16.2]) 0 s36 rfl rfl rfl rfl rfl rfl rfl fun H25 s37=>ae (af (am h74 (ak 1 s37 rfl rfl rfl rfl (aD rfl ((hp3.mono (g1.trans (g6.trans (g7.trans (g9.trans (g10.trans (g14.trans (g15.trans g16))))))).v)).len (aa (v:=vi 0) rfl (ae ?_))))))
    obtain⟨x18,q41,e5⟩:=oB e5
    obtain⟨rfl,q43⟩:=bp q41
    obtain⟨y7,q44,e5⟩:=oB e5
    refine ay (aV (xs:=Pu.ran (a0.prev.length:Int)) (fun(i12:Nat) (s38:(List Ty.E9)) tm H=>tm 90=vi i12∧∃(Z16 V16:PH) (w26:Value),Gw Z15 V15 Z16 V16∧Sat Z16 V16 H [pts b1 (.rw 0 [(vS d1 a0.accept),(vS d2 a0.next_),(vS d3 a0.prev)]),pts b2 (.rw 0 [w22,w23]),It.sl Sh.int w22 x15.1.of_,It.sl sI1 w23 x15.1.blocks,It.sl (Sh.ro Sh.E9) w26 s38,pts b4 (.rw 0 [vi x16.1,vi x16.2]),It.sl (Sh.ro Sh.arr2) w24 x15.2]∧tm 1=(pV b1 0)∧tm 3=(pV b2 0)∧tm 4=w26∧tm 12=(pV b4 0)∧tm 81=w24∧tm 82=(vN x15.2)∧tm 83=(vJ i11)∧tm 89=(vN a0.prev)) (fun i12 x17 s38 s40 tm H27 q39 q40 j6 e6 k9=>?_) (fun tm H26 jd=>?_) q44 ⟨rfl,_,_,_,Gw.refl _ _,(s37.pick [1,2,3,4,5,0,6] rfl),h74,h75,h76,rfl,h77,h78,hti4,rfl⟩)
    ·obtain⟨hti5,Z16,V16,w26,g17,s39,h80,h81,h82,h83,h84,h85,h86,h87⟩:=j6
     unfold P.B9.b5 at e6
     have hti5:=iv hti5 (cD q39).symm
     refine af (ao hti5 h87 (ae (ah (be rfl (cf q39) (ar (ah (ay (af (aa hti5 (aa (v:=vi x17) rfl (ae (af (jO h83 rfl rfl rfl (ak 5 s39 rfl rfl rfl rfl (aa (v:=vi x16.2) rfl (ae (ah (ah (ap (P:=fun tm=>tm 1=(pV b1 0)∧tm 3=(pV b2 0)∧tm 4=w26∧tm 12=(pV b4 0)∧tm 13=vi x17∧tm 14=vi x16.2∧tm 81=w24∧tm 82=(vN x15.2)∧tm 83=(vJ i11)∧tm 89=(vN a0.prev)∧tm 90=vi x17∧True) ⟨h80,h81,h82,h83,rfl,rfl,h84,h85,h86,h87,hti5,trivial⟩ ?_)))))))))))))))))))
     intro _ i13
     obtain⟨h88,h89,h90,h91,h92,h93,h94,h95,h96,h97,h98,-⟩:=i13
     refine aA s39 fun n2 H28 s41 q45 d9=>aj h89 (cI rfl (bt rfl ?_))
     obtain⟨d10,rfl⟩:=((s41.curS (s:=Sh.int) 2 rfl)).val
     obtain⟨d11,rfl⟩:=((s41.curS (s:=sI1) 3 rfl)).val
     refine aZ (q45 _ _ (an.2 ⟨s41.curB 1 rfl,by simp⟩)) 1 s41 rfl rfl rfl rfl (iA h91 rfl rfl rfl (aZ (q45 _ _ (an.2 ⟨s41.curB 5 rfl,by simp⟩)) 5 s41 rfl rfl rfl rfl ?_))
     obtain⟨x19,q46,e6⟩:=oB e6
     refine aq (v:=vS d11 x15.1.blocks) rfl rfl (s41.curS (s:=sI1) 3 rfl) rfl q46 fun p7 q47=>dt ((s41.curS 3 rfl).low pR q45) rfl (s41.curS (s:=sI1) 3 rfl) pR q47 q46 fun w27 h99 h100=>dI rfl (h99).len (aj h89 (cI rfl (bt rfl (aZ (q45 _ _ (an.2 ⟨s41.curB 1 rfl,by simp⟩)) 1 s41 rfl rfl rfl rfl (iA h91 rfl rfl rfl (aZ (q45 _ _ (an.2 ⟨s41.curB 5 rfl,by simp⟩)) 5 s41 rfl rfl rfl rfl ?_))))))
     obtain⟨x20,q48,e6⟩:=oB e6
     refine aq (v:=vS d11 x15.1.blocks) rfl rfl (s41.curS (s:=sI1) 3 rfl) rfl q48 fun p8 q49=>dt ((s41.curS 3 rfl).low pR q45) rfl (s41.curS (s:=sI1) 3 rfl) pR q49 q48 fun w28 h101 h102=>dI rfl (h101).len (jF rfl rfl (aj (v:=.bool (decide ((x19.length:Int)<(x20.length:Int)))) rfl ?_))
     obtain⟨y8,e7,e6⟩:=oB e6
     refine dn 8 (I:=fun tm H=>DD n2 28 (List.length F.B9.r28) H∧(∃(Z17 V17:PH),Gw Z16 V16 Z17 V17∧Sat Z17 V17 H [pts b1 (.rw 0 [(vS d1 a0.accept),(vS d2 a0.next_),(vS d3 a0.prev)]),pts b2 (.rw 0 [(vS d10 x15.1.of_),(vS d11 x15.1.blocks)]),Is Sh.int d10 x15.1.of_,Is sI1 d11 x15.1.blocks,It.sl (Sh.ro Sh.E9) w26 s38,pts b4 (.rw 0 [vi x16.1,vi x16.2]),It.sl (Sh.ro Sh.arr2) w24 x15.2]∧tm 1=(pV b1 0)∧tm 3=(pV b2 0)∧tm 4=w26∧tm 12=(pV b4 0)∧tm 13=vi x17∧tm 14=vi x16.2∧tm 81=w24∧tm 82=(vN x15.2)∧tm 83=(vJ i11)∧tm 89=(vN a0.prev)∧tm 90=vi x17∧tm 122=(.bool y8))) (fun k10=>?_) ?_
     ·rcases Bool.eq_false_or_eq_true (decide ((x19.length:Int)<(x20.length:Int))) with q50|q50
      ·replace e7:=ax q50 e7
       refine ai rfl q50 (aj h90 (ai rfl q50 (iA h91 rfl rfl rfl (ai rfl q50 (aZ (q45 _ _ (an.2 ⟨s41.curB 5 rfl,by simp⟩)) 5 s41 rfl rfl rfl rfl (ai rfl q50 (aj h92 (ai rfl q50 (hJ (qs:=[(0,1,(vi x16.1)),(1,1,(vi x17))]) rfl rfl (ai rfl q50 ?_))))))))))
       obtain⟨x21,q51,e7⟩:=oB e7
       obtain⟨Z18,V18,W4,g19,u4,c14,c15,-,c17,c16⟩:=Sat.call (l1:=[]) s41
       have r2:=RdS.redo (c15 3 _ sI1 _ _ rfl) c14.v q47 q46 h100
       have r3:=RdS.redo (c15 3 _ sI1 _ _ rfl) c14.v q49 q48 h102
       refine bK (mc rfl (mc rfl m0)) (X.D5 nd.D5 (a1:=Ty.E9.mk x16.1 x17) c14 (c15 4 _ (Sh.ro Sh.E9) _ _ rfl) q51) fun _ H30 i14 k11=>?_
       have d12:=d9.keep k11
       obtain⟨rfl,s43⟩:=i14
       have s44:=c16 _ _ s43
       have h115:=r2.2 _ s43.v
       have h116:=r3.2 _ s43.v
       refine ai rfl q50 (dJ rfl (bJ (a:=.bool (!x21)) rfl q50 rfl ?_))
       obtain rfl:=oJ e7
       exact k10 _ _ _ ⟨d12.up rfl,_,_,g19,s44,h88,h89,h90,h91,h92,h93,h94,h95,h96,h97,h98,rfl⟩
      replace e7:=aS q50 e7
      refine aw rfl q50 (aw rfl q50 (aw rfl q50 (aw rfl q50 (aw rfl q50 (aw rfl q50 (aw rfl q50 (bI (b:=.bool false) rfl q50 rfl ?_)))))))
      obtain rfl:=oJ e7
      exact k10 _ _ _ ⟨d9.up rfl,_,_,Gw.refl _ _,s41,h88,h89,h90,h91,h92,h93,h94,h95,h96,h97,h98,rfl⟩
     intro _ H29 _ i15
     obtain⟨d13,Z17,V17,g18,s42,h103,h104,h105,h106,h107,h108,h109,h110,h111,h112,h113,h114⟩:=i15
     refine aQ aK ?_
     obtain⟨y9,e8,e6⟩:=oB e6
     refine bf (I:=fun tm H=>∃(Z19 V19:PH),Gw Z17 V17 Z19 V19∧Sat Z19 V19 H [pts b1 (.rw 0 [(vS d1 a0.accept),(vS d2 a0.next_),(vS d3 a0.prev)]),pts b2 (.rw 0 [(vS d10 x15.1.of_),(vS d11 x15.1.blocks)]),Is Sh.int d10 x15.1.of_,Is sI1 d11 x15.1.blocks,It.sl (Sh.ro Sh.E9) w26 s38,pts b4 (.rw 0 [vi x16.1,vi x16.2]),It.sl (Sh.ro Sh.arr2) w24 x15.2]∧tm 1=(pV b1 0)∧tm 3=(pV b2 0)∧tm 4=w26∧tm 12=(pV b4 0)∧tm 13=vi x17∧tm 14=vi y9∧tm 81=w24∧tm 82=(vN x15.2)∧tm 83=(vJ i11)∧tm 89=(vN a0.prev)∧tm 90=vi x17) (fun k12=>?_) ?_
     ·refine bx h114 (fun q52=>?_) (fun q52=>?_)
      ·replace e8:=ax q52 e8
       refine bq (jO h106 rfl rfl rfl (ak 5 s42 rfl rfl rfl rfl (aa (v:=vi x16.1) rfl (ae ?_))))
       obtain rfl:=oJ e8
       exact k12 _ _ ⟨_,_,Gw.refl _ _,s42,h103,h104,h105,h106,h107,rfl,h109,h110,h111,h112,h113⟩
      replace e8:=aS q52 e8
      refine ar ?_
      obtain rfl:=oJ e8
      exact k12 _ _ ⟨_,_,Gw.refl _ _,s42,h103,h104,h105,h106,h107,h108,h109,h110,h111,h112,h113⟩
     intro _ H31 i16
     obtain⟨Z19,V19,g20,s45,h117,h118,h119,h120,h121,h122,h123,h124,h125,h126,h127⟩:=i16
     refine bq (aa h119 (aa h122 (aa h121 (bR (qs:=[(0,1,(vi y9)),(1,1,(vi x17))]) rfl rfl (bP (s:=Sh.ro Sh.E9) (us:=[vi y9,vi x17]) (qs:=[(0,2,(.agg #[vi y9,vi x17]))]) (xs:=[(Ty.E9.mk y9 x17)]) s45 (Sh.ro_lt _) rfl rfl rfl (Els.cons (c:=[vi y9,vi x17]) rfl Els.nil) rfl rfl fun w29 H32 s46=>?_)))))
     obtain⟨Z20,V20,g21,s47,h128⟩:=s46.frzS 0 rfl
     replace h128:=h128.of_ro
     obtain⟨x22,q53,e6⟩:=oB e6
     refine cn 4 s47 rfl (Sh.ro_lt _) rfl rfl rfl rfl h128 s47.z (fun h=>h) (by decide) q53 fun w30 H33 s48=>aa (v:=w30) rfl (ae (aF (bq (az h127 rfl (aa (v:=vi (Pu.W (x17+1))) rfl (ae ?_))))))
     obtain rfl:=oJ e6
     exact k9 _ _ ⟨(iv rfl (bU q39 q43)),_,_,_,(g17.trans (g18.trans (g20.trans g21))),s48,h117,h118,rfl,h120,h123,h124,h125,h126⟩
    obtain⟨hte5,Z21,V21,w31,g22,s49,h129,h130,h131,h132,h133,h134,h135,h136⟩:=jd
    refine af (ao hte5 h136 (ae (ah (bc rfl (bA _) (aR (aU (aU (bT (aF (bq (az h135 rfl (aa (v:=vi (Pu.W ((i11:Int)+1))) rfl (ae ?_)))))))))))))
    obtain rfl:=oJ e5
    exact k8 _ _ ⟨(iv rfl (bE q36 ((s31.curS (s:=Sh.ro Sh.arr2) 3 rfl)).bd)),_,_,_,(g15.trans (g16.trans g22)),(s49.pick [0,1,2,3,4,6] rfl),h129,h130,h131,h133,h134⟩
   obtain⟨hte4,Z22,V22,w32,g23,s50,h137,h138,h139,h140,h141⟩:=jd
   refine af (ao hte4 h141 (ae (ah (bc rfl (Int.lt_irrefl _) (aR (aU (aU (bT (aF ?_)))))))))
   exact k3 _ _ _ (sJ e3) ⟨_,_,_,_,_,(g7.trans (g9.trans (g10.trans (g14.trans g23)))),(s50.pick [0,1,2,3,4] rfl),h137,h138,h139⟩
  replace e3:=bb q18 e3
  refine aR (aU (aU (bT ?_)))
  exact k6 _ _ ⟨_,k4 _ (sJ e3),_,_,_,_,_,g7,s16,h29,h30,h31⟩
 intro _ H13 i17
 obtain⟨s17,f1,Z8,V8,w12,w13,w14,g8,s18,h32,h33,h34⟩:=i17
 replace e:=bD f1 e
 refine af (aa h33 (bS rfl (am rfl ?_)))
 obtain⟨d14,rfl⟩:=((s18.curS (s:=Sh.int) 2 rfl)).val
 obtain⟨d15,rfl⟩:=((s18.curS (s:=sI1) 3 rfl)).val
 refine ak 1 s18 rfl rfl rfl rfl (aa (v:=vS d14 s17.1) rfl (ae (aL ?_)))
 obtain rfl:=oJ e
 exact⟨.inr rfl,_,(ar1 rfl),_,rfl,((s18.pick [2] rfl).weak (g1.trans (g6.trans g8)) hs.zv)⟩
end Go.Proofs.Ytmfkjilndpchbaa
