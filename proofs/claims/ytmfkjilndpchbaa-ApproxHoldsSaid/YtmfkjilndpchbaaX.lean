import Derived.Test.YtmfkjilndpchbaaX2
import Derived.Test.YtmfkjilndpchbaaGapprox
import Derived.Test.YtmfkjilndpchbaaGcmp
import Derived.Test.YtmfkjilndpchbaaGdfa
import Derived.Test.YtmfkjilndpchbaaGgram
import Derived.Test.YtmfkjilndpchbaaGmathbits
import Derived.Test.YtmfkjilndpchbaaGmini
import Derived.Test.YtmfkjilndpchbaaGparlkeep5
import Derived.Test.YtmfkjilndpchbaaGparlmake
import Derived.Test.YtmfkjilndpchbaaGslices
import Derived.Test.YtmfkjilndpchbaaGtree
namespace Go.Proofs.Ytmfkjilndpchbaa
open Go Go.Ab
set_option maxHeartbeats 1000000
variable {T:FuncId→Option AFunc}{Z V:PH}{H:Hp}
structure Nd.B9 (T:FuncId→Option AFunc):Prop where
 own:Has T I.B9 F.B9
 G8:Nd.G8 T
 B5:Nd.B5 T
 D6:Nd.D6 T
theorem X.B9 {T:FuncId→Option AFunc}(nd:Nd.B9 T){φ:Nat}{Z V:PH}{H:Hp}{v1:Value}{v2:Value}{v3:Value}{a0:Ty.K8}(hs:Sat Z V H [])(hp1:RdS Sh.int V v1 a0.accept)(hp2:RdS sI1 V v2 a0.next_)(hp3:RdS sI2 V v3 a0.prev){r:(List Int)}(e:P.B9 φ a0=some r):
 G T I.B9 [(.agg #[v1,v2,v3])] H (fun rv H'=>∃(u1:Value),rv=u1∧Sat Z V H' [It.sl Sh.int u1 r]):=by
 unfold P.B9 at e
 refine bu nd.own (af ?_)
 obtain⟨d1,rfl⟩:=(hp1).val
 obtain⟨d2,rfl⟩:=(hp2).val
 obtain⟨d3,rfl⟩:=(hp3).val
 refine ce hs rfl rfl fun b1 H1 s1=>aa (v:=.slice none 0 0) rfl (ae (af (am rfl (ak 0 s1 rfl rfl rfl rfl ?_))))
 obtain⟨x1,q1,e⟩:=oB e
 obtain⟨Z1,V1,W1,g1,u1,c1,c2,-,c4,c3⟩:=Sat.call (l1:=[]) s1
 refine ao (mc rfl m0) (X.G8 nd.G8 c1 (hp1.mono (g1.v.trans u1)) q1) fun _ H2 i1=>?_
 obtain⟨b2,w1,w2,rfl,s2⟩:=i1
 have s3:=c3 _ _ s2
 refine aa (v:=pV b2 0) rfl (ae (af (aa (v:=.slice none 0 0) rfl (ae (ah (af (aa (v:=pV b2 0) rfl (bK rfl (am rfl ?_)))))))))
 obtain⟨d4,rfl⟩:=((s3.curS (s:=Sh.int) 1 rfl)).val
 obtain⟨d5,rfl⟩:=((s3.curS (s:=sI1) 2 rfl)).val
 refine ak 0 s3 rfl rfl rfl rfl (aB rfl ((s3.curS (s:=sI1) 2 rfl)).len (aa (v:=vi 0) rfl (ae (aq (P:=fun tm=>tm 1=(pV b1 0)∧tm 3=(pV b2 0)∧tm 4=(.slice none 0 0)∧tm 22=(vN x1.blocks)∧tm 23=vi 0∧True) ⟨rfl,rfl,rfl,rfl,rfl,trivial⟩ ?_))))
 intro _ i2
 obtain⟨h1,h2,h3,h4,h5,-⟩:=i2
 obtain⟨x3,q4,e⟩:=oB e
 obtain⟨rfl,q6⟩:=bj q4
 obtain⟨y1,q7,e⟩:=oB e
 refine ax (aY (xs:=Pu.ran (x1.blocks.length:Int)) (fun(i3:Nat) (s4:(List Ty.E8)) tm H=>tm 23=vi i3∧∃(Z2 V2:PH) (w3:Value),Gw Z1 V1 Z2 V2∧Sat Z2 V2 H [pts b1 (.rw 0 [(vS d1 a0.accept),(vS d2 a0.next_),(vS d3 a0.prev)]),pts b2 (.rw 0 [(vS d4 x1.of_),(vS d5 x1.blocks)]),Is Sh.int d4 x1.of_,Is sI1 d5 x1.blocks,It.sl (Sh.ro Sh.E8) w3 s4]∧tm 1=(pV b1 0)∧tm 3=(pV b2 0)∧tm 4=w3∧tm 22=(vN x1.blocks)) (fun i3 x2 s4 s6 tm H4 q2 q3 j1 e1 k1=>?_) (fun tm H3 jd=>?_) q7 ⟨h5,_,_,_,Gw.refl _ _,((s3.push (ba (s:=Sh.ro Sh.E8))).pick [4,1,2,3,0] rfl),h1,h2,h3,h4⟩)
 ·obtain⟨hti0,Z2,V2,w3,g2,s5,h6,h7,h8,h9⟩:=j1
  unfold P.B9.b0 at e1
  have hti0:=iv hti0 (cE q2).symm
  refine af (an hti0 h9 (ae (ah (aW rfl (ck q2) (ar (ah (ax (af (aa hti0 (aa (v:=vi x2) rfl (ae (af (am h6 (ak 0 s5 rfl rfl rfl rfl (aB rfl ((hp3.mono (g1.trans g2).v)).len (aa (v:=vi 0) rfl (ae ?_)))))))))))))))))
  obtain⟨x5,q10,e1⟩:=oB e1
  obtain⟨rfl,q12⟩:=bj q10
  obtain⟨y2,q13,e1⟩:=oB e1
  refine ax (aY (xs:=Pu.ran (a0.prev.length:Int)) (fun(i4:Nat) (s7:(List Ty.E8)) tm H=>tm 29=vi i4∧∃(Z3 V3:PH) (w4:Value),Gw Z2 V2 Z3 V3∧Sat Z3 V3 H [pts b1 (.rw 0 [(vS d1 a0.accept),(vS d2 a0.next_),(vS d3 a0.prev)]),pts b2 (.rw 0 [(vS d4 x1.of_),(vS d5 x1.blocks)]),Is Sh.int d4 x1.of_,Is sI1 d5 x1.blocks,It.sl (Sh.ro Sh.E8) w4 s7]∧tm 1=(pV b1 0)∧tm 3=(pV b2 0)∧tm 4=w4∧tm 5=vi x2∧tm 22=(vN x1.blocks)∧tm 23=vi x2∧tm 28=(vN a0.prev)) (fun i4 x4 s7 s9 tm H6 q8 q9 j2 e2 k2=>?_) (fun tm H5 jd=>?_) q13 ⟨rfl,_,_,_,Gw.refl _ _,s5,h6,h7,h8,rfl,h9,hti0,rfl⟩)
  ·obtain⟨hti1,Z3,V3,w4,g3,s8,h10,h11,h12,h13,h14,h15,h16⟩:=j2
   unfold P.B9.b1 at e2
   have hti1:=iv hti1 (cE q8).symm
   refine af (an hti1 h16 (ae (ah (aW rfl (ck q8) (ar (ah (ax (af (aa hti1 (aa (v:=vi x4) rfl (ae (bm (aa h12 (aa h13 (aa (v:=vi x4) rfl (bV (qs:=[(0,1,(vi x2)),(1,1,(vi x4))]) rfl rfl (bP (s:=Sh.ro Sh.E8) (us:=[vi x2,vi x4]) (qs:=[(0,2,(.agg #[vi x2,vi x4]))]) (xs:=[(Ty.E8.mk x2 x4)]) s8 (Sh.ro_lt _) rfl rfl rfl (Els.cons (c:=[vi x2,vi x4]) rfl Els.nil) rfl rfl fun w5 H7 s10=>?_)))))))))))))))))
   obtain⟨Z4,V4,g4,s11,h17⟩:=s10.frzS 0 rfl
   replace h17:=h17.of_ro
   obtain⟨x6,q14,e2⟩:=oB e2
   refine cp 4 s11 rfl (Sh.ro_lt _) rfl rfl rfl rfl h17 s11.z (fun h=>h) (by decide) q14 fun w6 H8 s12=>aa (v:=w6) rfl (ae (aF (bm (az hti1 rfl (aa (v:=vi (Pu.W (x4+1))) rfl (ae ?_))))))
   obtain rfl:=oJ e2
   exact k2 _ _ ⟨(iv rfl (bT q8 q12)),_,_,_,(g3.trans g4),s12,h10,h11,rfl,h13,h14,h15,h16⟩
  obtain⟨hte1,Z5,V5,w7,g5,s13,h18,h19,h20,h21,h22,h23,h24⟩:=jd
  refine af (an hte1 h24 (ae (ah (aX rfl (bx _) (aP (aV (aV (bQ (aF (bm (az h23 rfl (aa (v:=vi (Pu.W (x2+1))) rfl (ae ?_)))))))))))))
  obtain rfl:=oJ e1
  exact k1 _ _ ⟨(iv rfl (bT q2 q6)),_,_,_,(g2.trans g5),s13,h18,h19,h20,h22⟩
 obtain⟨hte0,Z6,V6,w8,g6,s14,h25,h26,h27,h28⟩:=jd
 refine af (an hte0 h28 (ae (ah (aX rfl (bx _) (aP (aV (aV (bQ (ah ?_)))))))))
 obtain⟨y3,q17,e⟩:=oB e
 refine aZ (I:=fun tm H=>∃(s17:((List Int)×(List (List Int))×(List Ty.E8))),y3= .out s17∧(∃(Z8 V8:PH) (w12:Value) (w13:Value) (w14:Value),Gw Z6 V6 Z8 V8∧Sat Z8 V8 H [pts b1 (.rw 0 [(vS d1 a0.accept),(vS d2 a0.next_),(vS d3 a0.prev)]),pts b2 (.rw 0 [w12,w13]),It.sl Sh.int w12 s17.1,It.sl sI1 w13 s17.2.1,It.sl (Sh.ro Sh.E8) w14 s17.2.2]∧tm 1=(pV b1 0)∧tm 3=(pV b2 0)∧tm 4=w14)) (fun k6=>?_) ?_
 ·refine ax (cm (fun(s15:((List Int)×(List (List Int))×(List Ty.E8))) tm H=>∃(Z7 V7:PH) (w9:Value) (w10:Value) (w11:Value),Gw Z6 V6 Z7 V7∧Sat Z7 V7 H [pts b1 (.rw 0 [(vS d1 a0.accept),(vS d2 a0.next_),(vS d3 a0.prev)]),pts b2 (.rw 0 [w9,w10]),It.sl Sh.int w9 s15.1,It.sl sI1 w10 s15.2.1,It.sl (Sh.ro Sh.E8) w11 s15.2.2]∧tm 1=(pV b1 0)∧tm 3=(pV b2 0)∧tm 4=w11) (fun s15 y4 tm H12 j3 e3 k3 k4 k5=>?_) q17 ⟨_,_,_,_,_,Gw.refl _ _,s14,h25,h26,h27⟩)
  obtain⟨Z7,V7,w9,w10,w11,g7,s16,h29,h30,h31⟩:=j3
  unfold P.B9.b2 at e3
  refine ah (af (aa h31 (aB rfl ((s16.curS (s:=Sh.ro Sh.E8) 4 rfl)).len (cH rfl rfl (ae (aK rfl (fun q18=>?_) (fun q18=>?_)))))))
  ·replace e3:=ay q18 e3
   refine ar (ax (af (aa h31 (aa h31 (aB rfl ((s16.curS (s:=Sh.ro Sh.E8) 4 rfl)).len (bv rfl rfl ?_))))))
   obtain⟨x8,q19,e3⟩:=oB e3
   refine aG (v:=w11) rfl rfl (s16.curS (s:=Sh.ro Sh.E8) 4 rfl) rfl q19 fun p1 q20=>ip (p:=p1) 4 s16 rfl rfl rfl q20 q19 fun Z9 V9 c5 g9 s19 h35=>?_
   obtain rfl:=h35
   refine bh s19 fun b3 H14 s20=>aM (us':=[vi x8.block,vi x8.by_]) 0 s20 rfl rfl rfl rfl rfl rfl rfl fun H15 s21=>ae (aq (P:=fun tm=>tm 1=(pV b1 0)∧tm 3=(pV b2 0)∧tm 4=w11∧tm 7=(pV b3 0)∧True) ⟨h29,h30,h31,rfl,trivial⟩ ?_)
   intro _ i6
   obtain⟨h36,h37,h38,h39,-⟩:=i6
   refine af (aa h38 (aa h38 (aB rfl ((s21.curS (s:=Sh.ro Sh.E8) 5 rfl)).len (bv rfl rfl ?_))))
   obtain⟨x9,q21,e3⟩:=oB e3
   refine o_slchX rfl rfl (s21.curS (s:=Sh.ro Sh.E8) 5 rfl) pR rfl q21 fun w15 h40 h41=>?_
   have s22:=Sat.conv (u:=It.sl (Sh.ro Sh.E8) w15 x9) 5 rfl (fun F h _ q=>h41.1 F h q) s21
   refine aa (v:=w15) rfl (ae (af (aa (v:=.slice none 0 0) rfl (ae (ah (ah (aq (P:=fun tm=>tm 1=(pV b1 0)∧tm 3=(pV b2 0)∧tm 4=w15∧tm 7=(pV b3 0)∧tm 8=(.slice none 0 0)∧True) ⟨h36,h37,rfl,h39,rfl,trivial⟩ ?_)))))))
   intro _ i7
   obtain⟨h42,h43,h44,h45,h46,-⟩:=i7
   refine aC s22 fun n1 H16 s23 q22 d6=>aj h43 (cJ rfl (bC rfl ?_))
   obtain⟨d7,rfl⟩:=((s23.curS (s:=Sh.int) 3 rfl)).val
   obtain⟨d8,rfl⟩:=((s23.curS (s:=sI1) 4 rfl)).val
   refine bn (q22 _ _ (ap.2 ⟨s23.curB 2 rfl,by simp⟩)) 2 s23 rfl rfl rfl rfl (bC h45 (bn (q22 _ _ (ap.2 ⟨s23.curB 0 rfl,by simp⟩)) 0 s23 rfl rfl rfl rfl ?_))
   obtain⟨x10,q23,e3⟩:=oB e3
   refine au (v:=vS d8 s15.2.1) rfl rfl (s23.curS (s:=sI1) 4 rfl) rfl q23 fun p2 q24=>dr ((s23.curS 4 rfl).low pR q22) rfl (s23.curS (s:=sI1) 4 rfl) pR q24 q23 fun w16 h47 h48=>fI rfl (h47).len (aj (v:=vi 0) rfl (aS aI (aq (P:=fun tm=>tm 1=(pV b1 0)∧tm 3=(pV b2 0)∧tm 4=w15∧tm 7=(pV b3 0)∧tm 8=(.slice none 0 0)∧tm 61=w16∧tm 62=(vN x10)∧tm 63=vi 0∧True) ⟨h42,h43,h44,h45,h46,rfl,rfl,rfl,trivial⟩ ?_)))
   intro _ i8
   obtain⟨h49,h50,h51,h52,h53,h54,h55,h56,-⟩:=i8
   obtain⟨Z10,V10,W2,g10,u2,c6,c7,-,-,c8⟩:=Sat.call (l1:=[pts b3 (.rw 0 [vi x8.block,vi x8.by_]),pts b1 (.rw 0 [(vS d1 a0.accept),(vS d2 a0.next_),(vS d3 a0.prev)]),pts b2 (.rw 0 [(vS d7 s15.1),(vS d8 s15.2.1)]),Is Sh.int d7 s15.1,It.sl (Sh.ro Sh.E8) w15 x9]) (l2:=[Is sI1 d8 s15.2.1]) (s23.pick [0,1,2,3,5,4] rfl)
   have h57:=c7 0 _ sI1 _ _ rfl
   have g11:Gw Z9 V9 Z10 W2:=⟨g10.z,g10.v.trans u2,g10.o⟩
   have r1:=RdS.redo h57 c6.v q24 q23 h48
   have z1:=c6.zv
   obtain⟨y5,q27,e3⟩:=oB e3
   refine ax (aY (xs:=x10) (fun(i9:Nat) (s24:(List Int)) tm H=>tm 63=vi i9∧∃(Z11 V11:PH) (w17:Value),Gw Z10 W2 Z11 V11∧Sat Z11 V11 H [pts b1 (.rw 0 [(vS d1 a0.accept),(vS d2 a0.next_),(vS d3 a0.prev)]),pts b2 (.rw 0 [(vS d7 s15.1),(vS d8 s15.2.1)]),Is Sh.int d7 s15.1,It.sl (Sh.ro Sh.E8) w15 x9,pts b3 (.rw 0 [vi x8.block,vi x8.by_]),It.sl Sh.int w17 s24]∧tm 1=(pV b1 0)∧tm 3=(pV b2 0)∧tm 4=w15∧tm 7=(pV b3 0)∧tm 8=w17∧tm 61=w16∧tm 62=(vN x10)) (fun i9 x11 s24 s26 tm H18 q25 q26 j4 e4 k7=>?_) (fun tm H17 jd=>?_) q27 ⟨h56,_,_,_,Gw.refl _ _,((c6.push (ba (s:=Sh.int))).pick [2,3,4,5,1,0] rfl),h49,h50,h51,h52,h53,h54,h55⟩)
   ·obtain⟨hti3,Z11,V11,w17,g12,s25,h58,h59,h60,h61,h62,h63,h64⟩:=j4
    unfold P.B9.b3 at e4
    refine af (an hti3 h64 (ae (ah (aW rfl (Int.ofNat_lt.2 q26) (ar (ah (ax (af (aG (v:=w16) h63 hti3 (r1.1.mono g12.v) rfl (Pu.ix_nat.trans q25) fun p3 q28=>cf rfl (r1.1.mono g12.v) s25.v q28 (Pu.ix_nat.trans q25) (aa (v:=vi x11) rfl (ae (bm (aa h62 (am h58 (ak 0 s25 rfl rfl rfl rfl (am h61 (ak 4 s25 rfl rfl rfl rfl ?_)))))))))))))))))
    obtain⟨x12,q29,e4⟩:=oB e4
    refine aG (v:=vS d3 a0.prev) rfl rfl (hp3.mono (g1.trans (g6.trans (g7.trans (g9.trans (g11.trans g12))))).v) rfl q29 fun p4 q30=>dE rfl (hp3.mono (g1.trans (g6.trans (g7.trans (g9.trans (g11.trans g12))))).v) s25.v q30 q29 fun w18 h65=>aa (v:=vi x11) rfl ?_
    obtain⟨x13,q31,e4⟩:=oB e4
    refine aG (v:=w18) rfl rfl h65 rfl q31 fun p5 q32=>dE rfl h65 s25.v q32 q31 fun w19 h66=>?_
    obtain⟨x14,q33,e4⟩:=oB e4
    refine cp 5 s25 rfl Sh.G6 rfl rfl rfl rfl h66 s25.v (fun h=>h) (by decide) q33 fun w20 H19 s27=>aa (v:=w20) rfl (ae (aF (bm (az hti3 rfl (aa (v:=vi (Pu.W ((i9:Int)+1))) rfl (ae ?_))))))
    obtain rfl:=oJ e4
    exact k7 _ _ ⟨(iv rfl (bq q26 (r1.1).bd)),_,_,_,g12,s27,h58,h59,h60,h61,rfl,h63,h64⟩
   obtain⟨hte3,Z12,V12,w21,g13,s28,h67,h68,h69,h70,h71,h72,h73⟩:=jd
   refine af (an hte3 h73 (ae (ah (aX rfl (Int.lt_irrefl _) (aP (aV (aV (bQ ?_))))))))
   have s29:=c8 _ _ (Sat.weak g13 z1 s28)
   refine af (aa h68 (aa h71 ?_))
   obtain⟨x15,q34,e3⟩:=oB e3
   obtain⟨Z13,V13,W3,g14,u3,c9,c10,-,c12,c11⟩:=Sat.call (l1:=[pts b2 (.rw 0 [(vS d7 s15.1),(vS d8 s15.2.1)]),Is Sh.int d7 s15.1,Is sI1 d8 s15.2.1]) (l2:=[pts b1 (.rw 0 [(vS d1 a0.accept),(vS d2 a0.next_),(vS d3 a0.prev)]),It.sl (Sh.ro Sh.E8) w15 x9,pts b3 (.rw 0 [vi x8.block,vi x8.by_]),It.sl Sh.int w21 y5]) (s29.pick [1,2,6,0,3,4,5] rfl)
   refine ao (mc rfl (mc rfl m0)) (X.B5 nd.B5 (a0:=Ty.K9.mk s15.1 s15.2.1) c9 (c10 3 _ Sh.int _ _ rfl) q34) fun w24 H21 i10=>?_
   obtain⟨w22,w23,_,rfl,s30⟩:=i10
   have s31:=c11 _ _ s30
   refine aB rfl ((s31.curS (s:=Sh.ro Sh.arr2) 3 rfl)).len (aa (v:=vi 0) rfl (ae ?_))
   obtain⟨y6,q37,e3⟩:=oB e3
   refine ax (aY (xs:=x15.2) (fun(i11:Nat) (s32:(List Ty.E8)) tm H=>tm 83=vi i11∧∃(Z14 V14:PH) (w25:Value),Gw Z13 V13 Z14 V14∧Sat Z14 V14 H [pts b1 (.rw 0 [(vS d1 a0.accept),(vS d2 a0.next_),(vS d3 a0.prev)]),pts b2 (.rw 0 [w22,w23]),It.sl Sh.int w22 x15.1.of_,It.sl sI1 w23 x15.1.blocks,It.sl (Sh.ro Sh.E8) w25 s32,It.sl (Sh.ro Sh.arr2) w24 x15.2]∧tm 1=(pV b1 0)∧tm 3=(pV b2 0)∧tm 4=w25∧tm 81=w24∧tm 82=(vN x15.2)) (fun i11 x16 s32 s34 tm H23 q35 q36 j5 e5 k8=>?_) (fun tm H22 jd=>?_) q37 ⟨rfl,_,_,_,Gw.refl _ _,(s31.pick [4,0,1,2,5,3] rfl),h67,h68,h69,rfl,rfl⟩)
   ·obtain⟨hti4,Z14,V14,w25,g15,s33,h74,h75,h76,h77,h78⟩:=j5
    unfold P.B9.b4 at e5
    refine af (an hti4 h78 (ae (ah (aW rfl (Int.ofNat_lt.2 q36) (ar (ah (ax (af (aG (v:=w24) h77 hti4 (s33.curS (s:=Sh.ro Sh.arr2) 5 rfl) rfl (Pu.ix_nat.trans q35) fun p6 q38=>ip (p:=p6) 5 s33 rfl rfl rfl q38 (Pu.ix_nat.trans q35) fun Z15 V15 c13 g16 s35 h79=>?_)))))))))
    obtain rfl:=h79
    refine bh s35 fun b4 H24 s36=>aM (us':=[vi x16.1,vi x16.2]) 0 s36 rfl rfl rfl rfl rfl rfl rfl fun H25 s37=>ae (af (am h74 (ak 1 s37 rfl rfl rfl rfl (aB rfl ((hp3.mono (g1.trans (g6.trans (g7.trans (g9.trans (g10.trans (g14.trans (g15.trans g16))))))).v)).len (aa (v:=vi 0) rfl (ae ?_))))))
    obtain⟨x18,q41,e5⟩:=oB e5
    obtain⟨rfl,q43⟩:=bj q41
    obtain⟨y7,q44,e5⟩:=oB e5
    refine ax (aY (xs:=Pu.ran (a0.prev.length:Int)) (fun(i12:Nat) (s38:(List Ty.E8)) tm H=>tm 90=vi i12∧∃(Z16 V16:PH) (w26:Value),Gw Z15 V15 Z16 V16∧Sat Z16 V16 H [pts b1 (.rw 0 [(vS d1 a0.accept),(vS d2 a0.next_),(vS d3 a0.prev)]),pts b2 (.rw 0 [w22,w23]),It.sl Sh.int w22 x15.1.of_,It.sl sI1 w23 x15.1.blocks,It.sl (Sh.ro Sh.E8) w26 s38,pts b4 (.rw 0 [vi x16.1,vi x16.2]),It.sl (Sh.ro Sh.arr2) w24 x15.2]∧tm 1=(pV b1 0)∧tm 3=(pV b2 0)∧tm 4=w26∧tm 12=(pV b4 0)∧tm 81=w24∧tm 82=(vN x15.2)∧tm 83=(vJ i11)∧tm 89=(vN a0.prev)) (fun i12 x17 s38 s40 tm H27 q39 q40 j6 e6 k9=>?_) (fun tm H26 jd=>?_) q44 ⟨rfl,_,_,_,Gw.refl _ _,(s37.pick [1,2,3,4,5,0,6] rfl),h74,h75,h76,rfl,h77,h78,hti4,rfl⟩)
    ·obtain⟨hti5,Z16,V16,w26,g17,s39,h80,h81,h82,h83,h84,h85,h86,h87⟩:=j6
     unfold P.B9.b5 at e6
     have hti5:=iv hti5 (cE q39).symm
     refine af (an hti5 h87 (ae (ah (aW rfl (ck q39) (ar (ah (ax (af (aa hti5 (aa (v:=vi x17) rfl (ae (af (jD h83 rfl rfl rfl (ak 5 s39 rfl rfl rfl rfl (aa (v:=vi x16.2) rfl (ae (ah (ah (aq (P:=fun tm=>tm 1=(pV b1 0)∧tm 3=(pV b2 0)∧tm 4=w26∧tm 12=(pV b4 0)∧tm 13=vi x17∧tm 14=vi x16.2∧tm 81=w24∧tm 82=(vN x15.2)∧tm 83=(vJ i11)∧tm 89=(vN a0.prev)∧tm 90=vi x17∧True) ⟨h80,h81,h82,h83,rfl,rfl,h84,h85,h86,h87,hti5,trivial⟩ ?_)))))))))))))))))))
     intro _ i13
     obtain⟨h88,h89,h90,h91,h92,h93,h94,h95,h96,h97,h98,-⟩:=i13
     refine aC s39 fun n2 H28 s41 q45 d9=>aj h89 (cJ rfl (bC rfl ?_))
     obtain⟨d10,rfl⟩:=((s41.curS (s:=Sh.int) 2 rfl)).val
     obtain⟨d11,rfl⟩:=((s41.curS (s:=sI1) 3 rfl)).val
     refine bn (q45 _ _ (ap.2 ⟨s41.curB 1 rfl,by simp⟩)) 1 s41 rfl rfl rfl rfl (iu h91 rfl rfl rfl (bn (q45 _ _ (ap.2 ⟨s41.curB 5 rfl,by simp⟩)) 5 s41 rfl rfl rfl rfl ?_))
     obtain⟨x19,q46,e6⟩:=oB e6
     refine au (v:=vS d11 x15.1.blocks) rfl rfl (s41.curS (s:=sI1) 3 rfl) rfl q46 fun p7 q47=>dr ((s41.curS 3 rfl).low pR q45) rfl (s41.curS (s:=sI1) 3 rfl) pR q47 q46 fun w27 h99 h100=>fI rfl (h99).len (aj h89 (cJ rfl (bC rfl (bn (q45 _ _ (ap.2 ⟨s41.curB 1 rfl,by simp⟩)) 1 s41 rfl rfl rfl rfl (iu h91 rfl rfl rfl (bn (q45 _ _ (ap.2 ⟨s41.curB 5 rfl,by simp⟩)) 5 s41 rfl rfl rfl rfl ?_))))))
     obtain⟨x20,q48,e6⟩:=oB e6
     refine au (v:=vS d11 x15.1.blocks) rfl rfl (s41.curS (s:=sI1) 3 rfl) rfl q48 fun p8 q49=>dr ((s41.curS 3 rfl).low pR q45) rfl (s41.curS (s:=sI1) 3 rfl) pR q49 q48 fun w28 h101 h102=>fI rfl (h101).len (jB rfl rfl (aj (v:=.bool (decide ((x19.length:Int)<(x20.length:Int)))) rfl ?_))
     obtain⟨y8,e7,e6⟩:=oB e6
     refine dG 8 (I:=fun tm H=>DD n2 28 (List.length F.B9.r28) H∧(∃(Z17 V17:PH),Gw Z16 V16 Z17 V17∧Sat Z17 V17 H [pts b1 (.rw 0 [(vS d1 a0.accept),(vS d2 a0.next_),(vS d3 a0.prev)]),pts b2 (.rw 0 [(vS d10 x15.1.of_),(vS d11 x15.1.blocks)]),Is Sh.int d10 x15.1.of_,Is sI1 d11 x15.1.blocks,It.sl (Sh.ro Sh.E8) w26 s38,pts b4 (.rw 0 [vi x16.1,vi x16.2]),It.sl (Sh.ro Sh.arr2) w24 x15.2]∧tm 1=(pV b1 0)∧tm 3=(pV b2 0)∧tm 4=w26∧tm 12=(pV b4 0)∧tm 13=vi x17∧tm 14=vi x16.2∧tm 81=w24∧tm 82=(vN x15.2)∧tm 83=(vJ i11)∧tm 89=(vN a0.prev)∧tm 90=vi x17∧tm 122=(.bool y8))) (fun k10=>?_) ?_
     ·rcases Bool.eq_false_or_eq_true (decide ((x19.length:Int)<(x20.length:Int))) with q50|q50
      ·replace e7:=ay q50 e7
       refine ai rfl q50 (aj h90 (ai rfl q50 (iu h91 rfl rfl rfl (ai rfl q50 (bn (q45 _ _ (ap.2 ⟨s41.curB 5 rfl,by simp⟩)) 5 s41 rfl rfl rfl rfl (ai rfl q50 (aj h92 (ai rfl q50 (hO (qs:=[(0,1,(vi x16.1)),(1,1,(vi x17))]) rfl rfl (ai rfl q50 ?_))))))))))
       obtain⟨x21,q51,e7⟩:=oB e7
       obtain⟨Z18,V18,W4,g19,u4,c14,c15,-,c17,c16⟩:=Sat.call (l1:=[]) s41
       have r2:=RdS.redo (c15 3 _ sI1 _ _ rfl) c14.v q47 q46 h100
       have r3:=RdS.redo (c15 3 _ sI1 _ _ rfl) c14.v q49 q48 h102
       refine bM (mc rfl (mc rfl m0)) (X.D6 nd.D6 (a1:=Ty.E8.mk x16.1 x17) c14 (c15 4 _ (Sh.ro Sh.E8) _ _ rfl) q51) fun _ H30 i14 k11=>?_
       have d12:=d9.keep k11
       obtain⟨rfl,s43⟩:=i14
       have s44:=c16 _ _ s43
       have h115:=r2.2 _ s43.v
       have h116:=r3.2 _ s43.v
       refine ai rfl q50 (dD rfl (bE (a:=.bool (!x21)) rfl q50 rfl ?_))
       obtain rfl:=oJ e7
       exact k10 _ _ _ ⟨d12.up rfl,_,_,g19,s44,h88,h89,h90,h91,h92,h93,h94,h95,h96,h97,h98,rfl⟩
      replace e7:=aR q50 e7
      refine aw rfl q50 (aw rfl q50 (aw rfl q50 (aw rfl q50 (aw rfl q50 (aw rfl q50 (aw rfl q50 (bB (b:=.bool false) rfl q50 rfl ?_)))))))
      obtain rfl:=oJ e7
      exact k10 _ _ _ ⟨d9.up rfl,_,_,Gw.refl _ _,s41,h88,h89,h90,h91,h92,h93,h94,h95,h96,h97,h98,rfl⟩
     intro _ H29 _ i15
     obtain⟨d13,Z17,V17,g18,s42,h103,h104,h105,h106,h107,h108,h109,h110,h111,h112,h113,h114⟩:=i15
     refine aS aI ?_
     obtain⟨y9,e8,e6⟩:=oB e6
     refine aZ (I:=fun tm H=>∃(Z19 V19:PH),Gw Z17 V17 Z19 V19∧Sat Z19 V19 H [pts b1 (.rw 0 [(vS d1 a0.accept),(vS d2 a0.next_),(vS d3 a0.prev)]),pts b2 (.rw 0 [(vS d10 x15.1.of_),(vS d11 x15.1.blocks)]),Is Sh.int d10 x15.1.of_,Is sI1 d11 x15.1.blocks,It.sl (Sh.ro Sh.E8) w26 s38,pts b4 (.rw 0 [vi x16.1,vi x16.2]),It.sl (Sh.ro Sh.arr2) w24 x15.2]∧tm 1=(pV b1 0)∧tm 3=(pV b2 0)∧tm 4=w26∧tm 12=(pV b4 0)∧tm 13=vi x17∧tm 14=vi y9∧tm 81=w24∧tm 82=(vN x15.2)∧tm 83=(vJ i11)∧tm 89=(vN a0.prev)∧tm 90=vi x17) (fun k12=>?_) ?_
     ·refine bt h114 (fun q52=>?_) (fun q52=>?_)
      ·replace e8:=ay q52 e8
       refine bm (jD h106 rfl rfl rfl (ak 5 s42 rfl rfl rfl rfl (aa (v:=vi x16.1) rfl (ae ?_))))
       obtain rfl:=oJ e8
       exact k12 _ _ ⟨_,_,Gw.refl _ _,s42,h103,h104,h105,h106,h107,rfl,h109,h110,h111,h112,h113⟩
      replace e8:=aR q52 e8
      refine ar ?_
      obtain rfl:=oJ e8
      exact k12 _ _ ⟨_,_,Gw.refl _ _,s42,h103,h104,h105,h106,h107,h108,h109,h110,h111,h112,h113⟩
     intro _ H31 i16
     obtain⟨Z19,V19,g20,s45,h117,h118,h119,h120,h121,h122,h123,h124,h125,h126,h127⟩:=i16
     refine bm (aa h119 (aa h122 (aa h121 (bV (qs:=[(0,1,(vi y9)),(1,1,(vi x17))]) rfl rfl (bP (s:=Sh.ro Sh.E8) (us:=[vi y9,vi x17]) (qs:=[(0,2,(.agg #[vi y9,vi x17]))]) (xs:=[(Ty.E8.mk y9 x17)]) s45 (Sh.ro_lt _) rfl rfl rfl (Els.cons (c:=[vi y9,vi x17]) rfl Els.nil) rfl rfl fun w29 H32 s46=>?_)))))
     obtain⟨Z20,V20,g21,s47,h128⟩:=s46.frzS 0 rfl
     replace h128:=h128.of_ro
     obtain⟨x22,q53,e6⟩:=oB e6
     refine cp 4 s47 rfl (Sh.ro_lt _) rfl rfl rfl rfl h128 s47.z (fun h=>h) (by decide) q53 fun w30 H33 s48=>aa (v:=w30) rfl (ae (aF (bm (az h127 rfl (aa (v:=vi (Pu.W (x17+1))) rfl (ae ?_))))))
     obtain rfl:=oJ e6
     exact k9 _ _ ⟨(iv rfl (bT q39 q43)),_,_,_,(g17.trans (g18.trans (g20.trans g21))),s48,h117,h118,rfl,h120,h123,h124,h125,h126⟩
    obtain⟨hte5,Z21,V21,w31,g22,s49,h129,h130,h131,h132,h133,h134,h135,h136⟩:=jd
    refine af (an hte5 h136 (ae (ah (aX rfl (bx _) (aP (aV (aV (bQ (aF (bm (az h135 rfl (aa (v:=vi (Pu.W ((i11:Int)+1))) rfl (ae ?_)))))))))))))
    obtain rfl:=oJ e5
    exact k8 _ _ ⟨(iv rfl (bq q36 ((s31.curS (s:=Sh.ro Sh.arr2) 3 rfl)).bd)),_,_,_,(g15.trans (g16.trans g22)),(s49.pick [0,1,2,3,4,6] rfl),h129,h130,h131,h133,h134⟩
   obtain⟨hte4,Z22,V22,w32,g23,s50,h137,h138,h139,h140,h141⟩:=jd
   refine af (an hte4 h141 (ae (ah (aX rfl (Int.lt_irrefl _) (aP (aV (aV (bQ (aF ?_)))))))))
   exact k3 _ _ _ (sJ e3) ⟨_,_,_,_,_,(g7.trans (g9.trans (g10.trans (g14.trans g23)))),(s50.pick [0,1,2,3,4] rfl),h137,h138,h139⟩
  replace e3:=be q18 e3
  refine aP (aV (aV (bQ ?_)))
  exact k6 _ _ ⟨_,k4 _ (sJ e3),_,_,_,_,_,g7,s16,h29,h30,h31⟩
 intro _ H13 i17
 obtain⟨s17,f1,Z8,V8,w12,w13,w14,g8,s18,h32,h33,h34⟩:=i17
 replace e:=bw f1 e
 refine af (aa h33 (bK rfl (am rfl ?_)))
 obtain⟨d14,rfl⟩:=((s18.curS (s:=Sh.int) 2 rfl)).val
 obtain⟨d15,rfl⟩:=((s18.curS (s:=sI1) 3 rfl)).val
 refine ak 1 s18 rfl rfl rfl rfl (aa (v:=vS d14 s17.1) rfl (ae (aL ?_)))
 obtain rfl:=oJ e
 exact⟨.inr rfl,_,(ar1 rfl),_,rfl,((s18.pick [2] rfl).weak (g1.trans (g6.trans g8)) hs.zv)⟩
structure Nd.G0 (T:FuncId→Option AFunc):Prop where
 own:Has T I.G0 F.G0
 E3:Nd.E3 T
 C6:Nd.C6 T
 B9:Nd.B9 T
 D1:Nd.D1 T
theorem X.G0 {T:FuncId→Option AFunc}(nd:Nd.G0 T){φ:Nat}{Z V:PH}{H:Hp}{v1:Value}{v2:Value}{a0:Ty.K5}(hs:Sat Z V H [])(hp1:RdS Sh.int V v1 a0.Accept)(hp2:RdS sI1 V v2 a0.Next){r:(Ty.K5×Int)}(e:P.G0 φ a0=some r):
 G T I.G0 [(.agg #[vi a0.Start,v1,v2])] H (fun rv H'=>∃(u1:Value) (u2:Value),rv=(.tuple #[(.agg #[vi r.1.Start,u1,u2]),vi r.2])∧Sat Z V H' [It.sl Sh.int u1 r.1.Accept,It.sl sI1 u2 r.1.Next]):=by
 unfold P.G0 at e
 refine bu nd.own (af ?_)
 obtain⟨d1,rfl⟩:=(hp1).val
 obtain⟨d2,rfl⟩:=(hp2).val
 refine ce hs rfl rfl fun b1 H1 s1=>bh s1 fun b2 H2 s2=>aa (v:=vi 0) rfl (ae (ah (af (ak 1 s2 rfl rfl rfl rfl ?_))))
 obtain⟨x1,q1,e⟩:=oB e
 obtain⟨Z1,V1,W1,g1,u1,c1,c2,-,c4,c3⟩:=Sat.call (l1:=[]) s2
 refine ao (mc rfl m0) (X.E3 nd.E3 c1 (hp1.mono (g1.v.trans u1)) (hp2.mono (g1.v.trans u1)) q1) fun _ H3 i1=>?_
 obtain⟨rfl,s3⟩:=i1
 have s4:=c3 _ _ s3
 refine aa (v:=vi x1) rfl (ae (af (aa (v:=vi x1) rfl (dc rfl rfl (ae (aK rfl (fun q2=>?_) (fun q2=>?_)))))))
 ·replace e:=ay q2 e
  refine af (bV (qs:=[]) rfl rfl (aa (v:=vi x1) rfl (aM (us':=[vi 0,(.slice none 0 0),(.slice none 0 0)]) 0 s4 rfl rfl rfl rfl rfl rfl rfl fun H4 s5=>aa (v:=vi x1) rfl (ae (aq (P:=fun tm=>tm 2=(pV b2 0)∧tm 3=vi x1∧True) ⟨rfl,rfl,trivial⟩ ?_)))))
  intro _ i2
  obtain⟨h1,h2,-⟩:=i2
  refine aL ?_
  obtain rfl:=oJ e
  exact⟨.inr rfl,_,(ra2 (rac 0 s5 rfl h1 rfl rfl) (rat h2)),_,_,rfl,((((s5.push (ba (s:=Sh.int))).push (ba (s:=sI1))).pick [1,0] rfl).weak g1 hs.zv)⟩
 replace e:=be q2 e
 refine ar (af (ak 1 s4 rfl rfl rfl rfl ?_))
 obtain⟨x2,q3,e⟩:=oB e
 obtain⟨Z2,V2,W2,g2,u2,c5,c6,-,c8,c7⟩:=Sat.call (l1:=[]) s4
 refine ao (mc rfl m0) (X.C6 nd.C6 c5 (hp1.mono ((g1.trans g2).v.trans u2)) (hp2.mono ((g1.trans g2).v.trans u2)) q3) fun _ H5 i3=>?_
 obtain⟨w1,w2,w3,rfl,s6⟩:=i3
 have s7:=c7 _ _ s6
 refine bh s7 fun b3 H6 s8=>?_
 obtain⟨d3,rfl⟩:=((s8.curS (s:=Sh.int) 1 rfl)).val
 obtain⟨d4,rfl⟩:=((s8.curS (s:=sI1) 2 rfl)).val
 obtain⟨d5,rfl⟩:=((s8.curS (s:=sI2) 3 rfl)).val
 refine aM (us':=[(vS d3 x2.accept),(vS d4 x2.next_),(vS d5 x2.prev)]) 0 s8 rfl rfl rfl rfl rfl rfl rfl fun H7 s9=>ae (aq (P:=fun tm=>tm 1=(pV b1 0)∧tm 2=(pV b2 0)∧tm 5=(pV b3 0)∧True) ⟨rfl,rfl,rfl,trivial⟩ ?_)
 intro _ i4
 obtain⟨h3,h4,h5,-⟩:=i4
 refine af (ak 0 s9 rfl h5 rfl rfl ?_)
 obtain⟨x3,q4,e⟩:=oB e
 obtain⟨Z3,V3,W3,g3,u3,c9,c10,-,c12,c11⟩:=Sat.call (l1:=[]) s9
 refine ao (mc rfl m0) (X.B9 nd.B9 c9 (c10 1 _ Sh.int _ _ rfl) (c10 2 _ sI1 _ _ rfl) (c10 3 _ sI2 _ _ rfl) q4) fun w4 H8 i5=>?_
 obtain⟨_,rfl,s10⟩:=i5
 have s11:=c11 _ _ s10
 refine aa (v:=w4) rfl (ae (af (aa (v:=w4) rfl (am h3 (ak 6 s11 rfl rfl rfl rfl (aB rfl ((hp2.mono (g1.trans (g2.trans g3)).v)).len ?_))))))
 obtain⟨x4,q5,e⟩:=oB e
 refine aG (v:=w4) rfl rfl (s11.curS (s:=Sh.int) 0 rfl) rfl q5 fun p1 q6=>cf rfl (s11.curS (s:=Sh.int) 0 rfl) pR q6 q5 (aa (v:=vi x4) rfl (ae (aq (P:=fun tm=>tm 1=(pV b1 0)∧tm 2=(pV b2 0)∧tm 5=(pV b3 0)∧tm 6=w4∧tm 7=vi x4∧True) ⟨h3,h4,h5,rfl,rfl,trivial⟩ ?_)))
 intro _ i6
 obtain⟨h6,h7,h8,h9,h10,-⟩:=i6
 refine af (dW (vi:Int→Value) (vi:Int→Value) s11 fun b4 H9 s12=>aa h9 (am h6 (ak 7 s12 rfl rfl rfl rfl ?_)))
 obtain⟨x5,q7,e⟩:=oB e
 refine aG (v:=w4) rfl rfl (s12.curS (s:=Sh.int) 1 rfl) rfl q7 fun p2 q8=>cf rfl (s12.curS (s:=Sh.int) 1 rfl) pR q8 q7 (ef Mk.i (q:=x5) (v:=0) 0 s12 rfl rfl rfl rfl rfl rfl fun H10 s13=>aa (v:=.map (some b4)) rfl (aa (v:=.map (some b4)) rfl (ae (af (bV (qs:=[]) rfl rfl (bh s13 fun b5 H11 s14=>aM (us':=[vi 0,(.slice none 0 0),(.slice none 0 0)]) 0 s14 rfl rfl rfl rfl rfl rfl rfl fun H12 s15=>ae (aq (P:=fun tm=>tm 1=(pV b1 0)∧tm 2=(pV b2 0)∧tm 5=(pV b3 0)∧tm 6=w4∧tm 7=vi x4∧tm 8=(.map (some b4))∧tm 9=(pV b5 0)∧True) ⟨h6,h7,h8,h9,h10,rfl,rfl,trivial⟩ ?_)))))))
 intro _ i7
 obtain⟨h11,h12,h13,h14,h15,h16,h17,-⟩:=i7
 refine ah (af (am h11 (ak 8 s15 rfl rfl rfl rfl (bP (s:=Sh.int) (us:=[vi a0.Start]) (qs:=[(0,1,(vi a0.Start))]) (xs:=[a0.Start]) s15 Sh.G6 rfl rfl rfl (Els.cons (c:=[vi a0.Start]) rfl Els.nil) rfl rfl fun w5 H13 s16=>aa (v:=w5) rfl (ae ?_)))))
 obtain⟨y1,q11,e⟩:=oB e
 refine aZ (I:=fun tm H=>∃(s19:((List (Int×Int))×(List Int)×(List (List Int))×(List Int))),y1= .out s19∧(∃(Z5 V5:PH) (w9:Value) (w10:Value) (w11:Value),Gw Z3 V3 Z5 V5∧Sat Z5 V5 H [pts b1 (.rw 0 [vi a0.Start,(vS d1 a0.Accept),(vS d2 a0.Next)]),pts b2 (.rw 0 [vi 0,(.slice none 0 0),(.slice none 0 0)]),pts b3 (.rw 0 [(vS d3 x2.accept),(vS d4 x2.next_),(vS d5 x2.prev)]),Is Sh.int d3 x2.accept,Is sI1 d4 x2.next_,Is sI2 d5 x2.prev,It.sl Sh.int w4 x3,It.mp vi vi b4 s19.1,pts b5 (.rw 0 [vi 0,w9,w10]),It.sl Sh.int w9 s19.2.1,It.sl sI1 w10 s19.2.2.1,It.sl Sh.int w11 s19.2.2.2]∧tm 1=(pV b1 0)∧tm 2=(pV b2 0)∧tm 5=(pV b3 0)∧tm 6=w4∧tm 7=vi x4∧tm 8=(.map (some b4))∧tm 9=(pV b5 0)∧tm 10=w11)) (fun k4=>?_) ?_
 ·refine ax (cm (fun(s17:((List (Int×Int))×(List Int)×(List (List Int))×(List Int))) tm H=>∃(Z4 V4:PH) (w6:Value) (w7:Value) (w8:Value),Gw Z3 V3 Z4 V4∧Sat Z4 V4 H [pts b1 (.rw 0 [vi a0.Start,(vS d1 a0.Accept),(vS d2 a0.Next)]),pts b2 (.rw 0 [vi 0,(.slice none 0 0),(.slice none 0 0)]),pts b3 (.rw 0 [(vS d3 x2.accept),(vS d4 x2.next_),(vS d5 x2.prev)]),Is Sh.int d3 x2.accept,Is sI1 d4 x2.next_,Is sI2 d5 x2.prev,It.sl Sh.int w4 x3,It.mp vi vi b4 s17.1,pts b5 (.rw 0 [vi 0,w6,w7]),It.sl Sh.int w6 s17.2.1,It.sl sI1 w7 s17.2.2.1,It.sl Sh.int w8 s17.2.2.2]∧tm 1=(pV b1 0)∧tm 2=(pV b2 0)∧tm 5=(pV b3 0)∧tm 6=w4∧tm 7=vi x4∧tm 8=(.map (some b4))∧tm 9=(pV b5 0)∧tm 10=w8) (fun s17 y2 tm H15 j1 e1 k1 k2 k3=>?_) q11 ⟨_,_,_,_,_,Gw.refl _ _,(((s16.push (ba (s:=Sh.int))).push (ba (s:=sI1))).pick [11,10,6,7,8,9,5,4,3,1,0,2] rfl),h11,h12,h13,h14,h15,h16,h17,rfl⟩)
  obtain⟨Z4,V4,w6,w7,w8,g4,s18,h18,h19,h20,h21,h22,h23,h24,h25⟩:=j1
  unfold P.G0.b0 at e1
  refine ah (af (aa h25 (aB rfl ((s18.curS (s:=Sh.int) 11 rfl)).len (cH rfl rfl (ae (aK rfl (fun q12=>?_) (fun q12=>?_)))))))
  ·replace e1:=ay q12 e1
   refine ar (ah (ax (af (bP (s:=Sh.int) (us:=[(vi (-1))]) (qs:=[(0,1,(vi (-1)))]) (xs:=[(-1)]) s18 Sh.G6 rfl rfl rfl (Els.cons (c:=[(vi (-1))]) rfl Els.nil) rfl rfl fun w12 H17 s21=>am h18 (ak 1 s21 rfl rfl rfl rfl ?_)))))
   obtain⟨x7,q13,e1⟩:=oB e1
   refine aG (v:=vS d2 a0.Next) rfl rfl (hp2.mono (g1.trans (g2.trans (g3.trans g4))).v) rfl q13 fun p3 q14=>dE rfl (hp2.mono (g1.trans (g2.trans (g3.trans g4))).v) s21.v q14 q13 fun w13 h34=>aB rfl (h34).len ?_
   obtain⟨x8,q15,e1⟩:=oB e1
   obtain⟨Z6,V6,W4,g6,u4,c13,c14,-,c16,c15⟩:=Sat.call (l1:=[]) s21
   refine ao (mc rfl (mc rfl m0)) (X.D1 nd.D1 c13 (c14 0 _ Sh.int _ _ rfl) q15) fun w14 H18 i9=>?_
   obtain⟨_,rfl,s22⟩:=i9
   have s23:=c15 _ _ s22
   refine aa (v:=w14) rfl (ae (aq (P:=fun tm=>tm 1=(pV b1 0)∧tm 2=(pV b2 0)∧tm 5=(pV b3 0)∧tm 6=w4∧tm 7=vi x4∧tm 8=(.map (some b4))∧tm 9=(pV b5 0)∧tm 10=w8∧tm 11=w14∧True) ⟨h18,h19,h20,h21,h22,h23,h24,h25,rfl,trivial⟩ ?_))
   intro _ i10
   obtain⟨h35,h36,h37,h38,h39,h40,h41,h42,h43,-⟩:=i10
   refine ah (ah (aC s23 fun n1 H19 s24 q16 d6=>bC h37 (bn (q16 _ _ (ap.2 ⟨s24.curB 4 rfl,by simp⟩)) 4 s24 rfl rfl rfl rfl (aj h42 ?_))))
   obtain⟨x9,q17,e1⟩:=oB e1
   refine au (v:=w8) rfl rfl (s24.curS (s:=Sh.int) 13 rfl) rfl q17 fun p4 q18=>aQ ((s24.curS 13 rfl).low pR q16) rfl (s24.curS (s:=Sh.int) 13 rfl) pR q18 q17 ?_
   have h44:=aH (s24.curS (s:=Sh.int) 13 rfl) pR q18 q17
   obtain⟨x10,q19,e1⟩:=oB e1
   refine au (v:=vS d4 x2.next_) rfl rfl (s24.curS (s:=sI1) 6 rfl) rfl q19 fun p5 q20=>dr ((s24.curS 6 rfl).low pR q16) rfl (s24.curS (s:=sI1) 6 rfl) pR q20 q19 fun w15 h45 h46=>fI rfl (h45).len (aj (v:=vi 0) rfl (aS aI ?_))
   obtain⟨Z7,V7,W5,g7,u5,c17,c18,-,-,c19⟩:=Sat.call (l1:=[It.sl Sh.int w14 x8,It.sl Sh.int w12 [(-1)],pts b1 (.rw 0 [vi a0.Start,(vS d1 a0.Accept),(vS d2 a0.Next)]),pts b2 (.rw 0 [vi 0,(.slice none 0 0),(.slice none 0 0)]),pts b3 (.rw 0 [(vS d3 x2.accept),(vS d4 x2.next_),(vS d5 x2.prev)]),Is Sh.int d3 x2.accept,Is sI2 d5 x2.prev,It.sl Sh.int w4 x3,It.mp vi vi b4 s17.1,pts b5 (.rw 0 [vi 0,w6,w7]),It.sl Sh.int w6 s17.2.1,It.sl sI1 w7 s17.2.2.1,It.sl Sh.int w8 s17.2.2.2]) (l2:=[Is sI1 d4 x2.next_]) (s24.pick [0,1,2,3,4,5,7,8,9,10,11,12,13,6] rfl)
   have h47:=c18 0 _ sI1 _ _ rfl
   have g8:Gw Z6 V6 Z7 W5:=⟨g7.z,g7.v.trans u5,g7.o⟩
   have r1:=RdS.redo h47 c17.v q20 q19 h46
   have z1:=c17.zv
   obtain⟨y3,q23,e1⟩:=oB e1
   refine ax (aY (xs:=x10) (fun(i11:Nat) (s25:((List (Int×Int))×(List Int)×(List Int))) tm H=>tm 64=vi i11∧∃(Z8 V8:PH) (w16:Value),Gw Z7 W5 Z8 V8∧Sat Z8 V8 H [pts b1 (.rw 0 [vi a0.Start,(vS d1 a0.Accept),(vS d2 a0.Next)]),pts b2 (.rw 0 [vi 0,(.slice none 0 0),(.slice none 0 0)]),pts b3 (.rw 0 [(vS d3 x2.accept),(vS d4 x2.next_),(vS d5 x2.prev)]),Is Sh.int d3 x2.accept,Is sI2 d5 x2.prev,It.sl Sh.int w4 x3,It.mp vi vi b4 s25.1,pts b5 (.rw 0 [vi 0,w6,w7]),It.sl Sh.int w6 s17.2.1,It.sl sI1 w7 s17.2.2.1,It.sl Sh.int w16 s25.2.1,It.sl Sh.int w14 s25.2.2]∧tm 1=(pV b1 0)∧tm 2=(pV b2 0)∧tm 5=(pV b3 0)∧tm 6=w4∧tm 7=vi x4∧tm 8=(.map (some b4))∧tm 9=(pV b5 0)∧tm 10=w16∧tm 11=w14∧tm 62=w15∧tm 63=(vN x10)) (fun i11 x11 s25 s27 tm H21 q21 q22 j2 e2 k5=>?_) (fun tm H20 jd=>?_) q23 ⟨rfl,_,_,_,Gw.refl _ _,(c17.pick [2,3,4,5,6,7,8,9,10,11,12,0] rfl),h35,h36,h37,h38,h39,h40,h41,h42,h43,rfl,rfl⟩)
   ·obtain⟨hti1,Z8,V8,w16,g9,s26,h48,h49,h50,h51,h52,h53,h54,h55,h56,h57,h58⟩:=j2
    unfold P.G0.b1 at e2
    refine af (an hti1 h58 (ae (ah (aW rfl (Int.ofNat_lt.2 q22) (ar (ah (ax (af (aa hti1 (aG (v:=w15) h57 hti1 (r1.1.mono g9.v) rfl (Pu.ix_nat.trans q21) fun p6 q24=>cf rfl (r1.1.mono g9.v) s26.v q24 (Pu.ix_nat.trans q21) (aa (v:=vJ i11) rfl (aa (v:=vi x11) rfl (ae (af (aa h51 (aa (v:=vi x11) rfl ?_))))))))))))))))
    obtain⟨x12,q25,e2⟩:=oB e2
    refine aG (v:=w4) rfl rfl (s26.curS (s:=Sh.int) 5 rfl) rfl q25 fun p7 q26=>cf rfl (s26.curS (s:=Sh.int) 5 rfl) pR q26 q25 (aa (v:=vi x12) rfl (ae (aq (P:=fun tm=>tm 1=(pV b1 0)∧tm 2=(pV b2 0)∧tm 5=(pV b3 0)∧tm 6=w4∧tm 7=vi x4∧tm 8=(.map (some b4))∧tm 9=(pV b5 0)∧tm 10=w16∧tm 11=w14∧tm 12=(vJ i11)∧tm 13=vi x11∧tm 14=vi x12∧tm 62=w15∧tm 63=(vN x10)∧tm 64=(vJ i11)∧True) ⟨h48,h49,h50,h51,h52,h53,h54,h55,h56,rfl,rfl,rfl,h57,h58,hti1,trivial⟩ ?_)))
    intro _ i12
    obtain⟨h59,h60,h61,h62,h63,h64,h65,h66,h67,h68,h69,h70,h71,h72,h73,-⟩:=i12
    refine ah (af (aa h70 (aa h63 (bY rfl rfl (ae (aK rfl (fun q27=>?_) (fun q27=>?_)))))))
    ·replace e2:=ay q27 e2
     refine aP (aV (bQ (bm (az h73 rfl (aa (v:=vi (Pu.W ((i11:Int)+1))) rfl (ae ?_))))))
     obtain rfl:=oJ e2
     exact k5 _ _ ⟨(iv rfl (bq q22 (r1.1).bd)),_,_,_,g9,s26,h59,h60,h61,h62,h63,h64,h65,h66,h67,h71,h72⟩
    replace e2:=be q27 e2
    refine ar (ah (af (aa h64 (aa h70 (gC Mk.i (q:=x12) (z:=0) 6 s26 rfl rfl rfl rfl rfl (aa (v:=.tuple #[(vi ((Pu.mget x12 s25.1).getD 0)),(.bool ((Pu.mget x12 s25.1).isSome))]) rfl (bz rfl rfl (bz rfl rfl (aa (v:=vi ((Pu.mget x12 s25.1).getD 0)) rfl (aa (v:=.bool ((Pu.mget x12 s25.1).isSome)) rfl (ae (aq (P:=fun tm=>tm 1=(pV b1 0)∧tm 2=(pV b2 0)∧tm 5=(pV b3 0)∧tm 6=w4∧tm 7=vi x4∧tm 8=(.map (some b4))∧tm 9=(pV b5 0)∧tm 10=w16∧tm 11=w14∧tm 12=(vJ i11)∧tm 13=vi x11∧tm 14=vi x12∧tm 16=(.bool ((Pu.mget x12 s25.1).isSome))∧tm 62=w15∧tm 63=(vN x10)∧tm 64=(vJ i11)∧True) ⟨h59,h60,h61,h62,h63,h64,h65,h66,h67,h68,h69,h70,rfl,h71,h72,h73,trivial⟩ ?_))))))))))))
    intro _ i13
    obtain⟨h74,h75,h76,h77,h78,h79,h80,h81,h82,h83,h84,h85,h86,h87,h88,h89,-⟩:=i13
    refine af (aa h86 (cC rfl (ae ?_)))
    obtain⟨y4,e3,e2⟩:=oB e2
    refine aZ (I:=fun tm H=>∃(Z9 V9:PH) (w17:Value),Gw Z8 V8 Z9 V9∧Sat Z9 V9 H [pts b1 (.rw 0 [vi a0.Start,(vS d1 a0.Accept),(vS d2 a0.Next)]),pts b2 (.rw 0 [vi 0,(.slice none 0 0),(.slice none 0 0)]),pts b3 (.rw 0 [(vS d3 x2.accept),(vS d4 x2.next_),(vS d5 x2.prev)]),Is Sh.int d3 x2.accept,Is sI2 d5 x2.prev,It.sl Sh.int w4 x3,It.mp vi vi b4 y4.1,pts b5 (.rw 0 [vi 0,w6,w7]),It.sl Sh.int w6 s17.2.1,It.sl sI1 w7 s17.2.2.1,It.sl Sh.int w17 y4.2,It.sl Sh.int w14 s25.2.2]∧tm 1=(pV b1 0)∧tm 2=(pV b2 0)∧tm 5=(pV b3 0)∧tm 6=w4∧tm 7=vi x4∧tm 8=(.map (some b4))∧tm 9=(pV b5 0)∧tm 10=w17∧tm 11=w14∧tm 12=(vJ i11)∧tm 14=vi x12∧tm 62=w15∧tm 63=(vN x10)∧tm 64=(vJ i11)) (fun k6=>?_) ?_
    ·refine bt rfl (fun q28=>?_) (fun q28=>?_)
     ·replace e3:=ay q28 e3
      refine af (aa h79 (aa h85 (aa h79 (o_lenm 6 s26 rfl rfl (ef Mk.i (q:=x12) (v:=(s25.1.length:Int)) 6 s26 rfl rfl rfl rfl rfl rfl fun H23 s29=>ae (bm (aa h81 (aa h84 (bP (s:=Sh.int) (us:=[vi x11]) (qs:=[(0,1,(vi x11))]) (xs:=[x11]) s29 Sh.G6 rfl rfl rfl (Els.cons (c:=[vi x11]) rfl Els.nil) rfl rfl fun w18 H24 s30=>?_)))))))))
      obtain⟨x13,q29,e3⟩:=oB e3
      refine cp 11 s30 rfl Sh.G6 rfl rfl rfl rfl (s30.curS (s:=Sh.int) 0 rfl) pR (fun h=>h) (by decide) q29 fun w19 H25 s31=>aa (v:=w19) rfl (ae ?_)
      obtain rfl:=oJ e3
      exact k6 _ _ ⟨_,_,_,Gw.refl _ _,(s31.pick [1,2,3,4,5,6,7,8,9,10,11,12] rfl),h74,h75,h76,h77,h78,h79,h80,rfl,h82,h83,h85,h87,h88,h89⟩
     replace e3:=aR q28 e3
     refine ar ?_
     obtain rfl:=oJ e3
     exact k6 _ _ ⟨_,_,_,Gw.refl _ _,s26,h74,h75,h76,h77,h78,h79,h80,h81,h82,h83,h85,h87,h88,h89⟩
    intro _ H22 i14
    obtain⟨Z9,V9,w17,g10,s28,h90,h91,h92,h93,h94,h95,h96,h97,h98,h99,h100,h101,h102,h103⟩:=i14
    refine bm (aa h98 (aa h99 (aa h95 (aa h100 (cx Mk.i (q:=x12) (z:=0) 6 s28 rfl rfl rfl rfl rfl ?_)))))
    obtain⟨x14,q30,e2⟩:=oB e2
    refine aG (v:=w14) rfl rfl (s28.curS (s:=Sh.int) 11 rfl) rfl q30 fun p8 q31=>jb 11 s28 rfl Sh.G6 rfl rfl rfl q31 q30 rfl rfl fun H26 s32=>ae (aF (bm (az h103 rfl (aa (v:=vi (Pu.W ((i11:Int)+1))) rfl (ae ?_)))))
    obtain rfl:=oJ e2
    exact k5 _ _ ⟨(iv rfl (bq q22 (r1.1).bd)),_,_,_,(g9.trans g10),s32,h90,h91,h92,h93,h94,h95,h96,h97,h98,h101,h102⟩
   obtain⟨hte1,Z10,V10,w20,g11,s33,h104,h105,h106,h107,h108,h109,h110,h111,h112,h113,h114⟩:=jd
   refine af (an hte1 h114 (ae (ah (aX rfl (Int.lt_irrefl _) (aP (aV (aV (bQ ?_))))))))
   have s34:=c19 _ _ (Sat.weak g11 z1 s33)
   refine aC s34 fun n2 H28 s35 q32 d7=>bC h110 ?_
   obtain⟨d8,rfl⟩:=((s35.curS (s:=Sh.int) 8 rfl)).val
   obtain⟨d9,rfl⟩:=((s35.curS (s:=sI1) 9 rfl)).val
   refine bn (q32 _ _ (ap.2 ⟨s35.curB 7 rfl,by simp⟩)) 7 s35 rfl rfl rfl rfl (bC h106 (bn (q32 _ _ (ap.2 ⟨s35.curB 2 rfl,by simp⟩)) 2 s35 rfl rfl rfl rfl (aj h111 ?_)))
   obtain⟨x15,q33,e1⟩:=oB e1
   refine au (v:=w20) rfl rfl (s35.curS (s:=Sh.int) 10 rfl) rfl q33 fun p9 q34=>aQ ((s35.curS 10 rfl).low pR q32) rfl (s35.curS (s:=Sh.int) 10 rfl) pR q34 q33 ?_
   have h115:=aH (s35.curS (s:=Sh.int) 10 rfl) pR q34 q33
   obtain⟨x16,q35,e1⟩:=oB e1
   refine au (v:=vS d3 x2.accept) rfl rfl (s35.curS (s:=Sh.int) 3 rfl) rfl q35 fun p10 q36=>aQ ((s35.curS 3 rfl).low pR q32) rfl (s35.curS (s:=Sh.int) 3 rfl) pR q36 q35 ?_
   have h116:=aH (s35.curS (s:=Sh.int) 3 rfl) pR q36 q35
   refine fV (s:=Sh.int) (us:=[vi x16]) (qs:=[(0,1,(vi x16))]) (xs:=[x16]) (d7.get 9 rfl rfl) s35 Sh.G6 rfl rfl rfl (Els.cons (c:=[vi x16]) rfl Els.nil) rfl rfl fun w21 H29 s36 k7=>?_
   have d10:=d7.next 9 rfl k7
   obtain⟨x17,q37,e1⟩:=oB e1
   refine fx 9 s36 rfl Sh.G6 rfl rfl rfl rfl (s36.curS (s:=Sh.int) 0 rfl) pR (fun h=>h) (by decide) q37 fun w22 H30 s37 k8=>?_
   have d11:=d10.keep k8
   refine bC h110 (bn (q32 _ _ (ap.2 ⟨s35.curB 7 rfl,by simp⟩)) 8 s37 rfl rfl rfl rfl (aj h112 ?_))
   have s38:=s37.pull 12 rfl
   refine js (d11.get 14 rfl rfl) s38 rfl fun w23 H31 s39 k9=>?_
   have d12:=d11.next 14 rfl k9
   obtain⟨x18,q38,e1⟩:=oB e1
   refine jv 10 s39 rfl rfl rfl (by decide) q38 (List.cons_ne_nil _ _) fun w24 H32 s40 k10=>?_
   have d13:=d12.keep k10
   refine bC h110 ?_
   obtain⟨d14,rfl⟩:=((s40.curS (s:=Sh.int) 9 rfl)).val
   refine fi (us':=[vi 0,(vS d14 x17),(vS d9 s17.2.2.1)]) 8 s40 rfl rfl rfl rfl rfl rfl rfl fun H33 s41 k11=>?_
   have d15:=d13.keep k11
   refine bC h110 ?_
   obtain⟨d16,rfl⟩:=((s41.curS (s:=sI1) 10 rfl)).val
   refine fi (us':=[vi 0,(vS d14 x17),(vS d16 x18)]) 8 s41 rfl rfl rfl rfl rfl rfl rfl fun H34 s42 k12=>?_
   have d17:=d15.keep k12
   refine aS (cQ rfl (ta8 (tre (tl8 (tl4 tr0)))) (ta8 (ta2 (tre (tl8 (tl2 tr0))))) (ta8 (tra (tre (tl8 (tl2 (trl tr0)))))) (cj (w:=vS d9 s17.2.2.1) fj rfl (bH 8 s37 rfl rfl rfl) (bH 8 s36 rfl rfl rfl) (by simp [vsame,vsame1])) (cj (w:=vS d9 s17.2.2.1) fj rfl (bH 8 s37 rfl rfl rfl) (bH 8 s37 rfl rfl rfl) (by simp [vsame,vsame1])) aI) (aF (bm (aa h111 ?_)))
   obtain⟨x19,q39,e1⟩:=oB e1
   refine o_slclX rfl rfl (s42.curS (s:=Sh.int) 11 rfl) pR rfl q39 fun w25 h117 h118=>?_
   have s43:=Sat.conv (u:=It.sl Sh.int w25 x19) 11 rfl (fun F h _ q=>h118.1 F h q) s42
   refine aa (v:=w25) rfl (ae ?_)
   exact k1 _ _ _ (sJ e1) ⟨_,_,_,_,_,(g4.trans (g6.trans g7)),(s43.pick [1,2,3,4,12,5,6,7,8,9,10,11] rfl),h104,h105,h106,h107,h108,h109,h110,rfl⟩
  replace e1:=be q12 e1
  refine aP (aV (aV (bQ ?_)))
  exact k4 _ _ ⟨_,k2 _ (sJ e1),_,_,_,_,_,g4,s18,h18,h19,h20,h21,h22,h23,h24,h25⟩
 intro _ H16 i15
 obtain⟨s19,f1,Z5,V5,w9,w10,w11,g5,s20,h26,h27,h28,h29,h30,h31,h32,h33⟩:=i15
 replace e:=bw f1 e
 refine af ?_
 obtain⟨d18,rfl⟩:=((s20.curS (s:=Sh.int) 9 rfl)).val
 obtain⟨d19,rfl⟩:=((s20.curS (s:=sI1) 10 rfl)).val
 refine ak 8 s20 rfl h32 rfl rfl (aM (us':=[vi 0,(vS d18 s19.2.1),(vS d19 s19.2.2.1)]) 1 s20 rfl h27 rfl rfl rfl rfl rfl fun H35 s44=>aa (v:=vi 0) rfl (ae (aL ?_)))
 obtain rfl:=oJ e
 exact⟨.inr rfl,_,(ra2 (rac 1 s44 rfl h27 rfl rfl) (rat rfl)),_,_,rfl,((s44.pick [9,10] rfl).weak (g1.trans (g2.trans (g3.trans g5))) hs.zv)⟩
structure Nd.E2 (T:FuncId→Option AFunc):Prop where
 own:Has T I.E2 F.E2
 A9:Nd.A9 T
 E7:Nd.E7 T
 F6:Nd.F6 T
 B4:Nd.B4 T
 B8:Nd.B8 T
 G0:Nd.G0 T
theorem X.E2 {T:FuncId→Option AFunc}(nd:Nd.E2 T){φ:Nat}{Z V:PH}{H:Hp}{v1:Value}{a0:Ty.E5}(hs:Sat Z V H [])(hp1:RdS Sh.D8 Z v1 a0.Rules){r:(Ty.K5×Bool×Int)}(e:P.E2 φ a0=some r):
 G T I.E2 [(.agg #[vi a0.Terms,vi a0.Nons,vi a0.Start,v1])] H (fun rv H'=>∃(u1:Value) (u2:Value),rv=(.tuple #[(.agg #[vi r.1.Start,u1,u2]),(.bool r.2.1),vi r.2.2])∧Sat Z V H' [It.sl Sh.int u1 r.1.Accept,It.sl sI1 u2 r.1.Next]):=by
 unfold P.E2 at e
 refine bu nd.own (af ?_)
 obtain⟨d1,rfl⟩:=(hp1).val
 refine ce hs rfl rfl fun b1 H1 s1=>bh s1 fun b2 H2 s2=>aa (v:=.bool false) rfl (aa (v:=vi 0) rfl (ae (af (ak 1 s2 rfl rfl rfl rfl ?_))))
 obtain⟨x1,q1,e⟩:=oB e
 obtain⟨Z1,V1,W1,g1,u1,c1,c2,-,c4,c3⟩:=Sat.call (l1:=[]) s2
 refine ao (mc rfl m0) (X.A9 nd.A9 c1 (hp1.mono (g1.z.trans c1.zv)) q1) fun _ H3 i1=>?_
 obtain⟨w1,rfl,s3⟩:=i1
 have s4:=c3 _ _ s3
 refine aa (v:=.tuple #[w1,vi x1.2]) rfl (bz rfl rfl (bz rfl rfl (aa (v:=w1) rfl (aa (v:=vi x1.2) rfl (ae (aq (P:=fun tm=>tm 1=(pV b1 0)∧tm 2=(pV b2 0)∧tm 5=w1∧tm 6=vi x1.2∧True) ⟨rfl,rfl,rfl,rfl,trivial⟩ ?_))))))
 intro _ i2
 obtain⟨h1,h2,h3,h4,-⟩:=i2
 refine ah (af (aa h4 (dc rfl rfl (ae (aK rfl (fun q2=>?_) (fun q2=>?_))))))
 ·replace e:=ay q2 e
  refine af (bV (qs:=[]) rfl rfl (aa h4 (aM (us':=[vi 0,(.slice none 0 0),(.slice none 0 0)]) 1 s4 rfl h2 rfl rfl rfl rfl rfl fun H4 s5=>aa (v:=.bool false) rfl (aa (v:=vi x1.2) rfl (ae (aL ?_))))))
  obtain rfl:=oJ e
  exact⟨.inr rfl,_,(ra3 (rac 1 s5 rfl h2 rfl rfl) (rat rfl) (rat rfl)),_,_,rfl,((((s5.push (ba (s:=Sh.int))).push (ba (s:=sI1))).pick [1,0] rfl).weak g1 hs.zv)⟩
 replace e:=be q2 e
 refine ar (ah (aC s4 fun n1 H5 s6 q3 d2=>bn (q3 _ _ (ap.2 ⟨s6.curB 2 rfl,by simp⟩)) 2 s6 rfl h1 rfl rfl (bC h1 (bn (q3 _ _ (ap.2 ⟨s6.curB 2 rfl,by simp⟩)) 2 s6 rfl rfl rfl rfl ?_))))
 obtain⟨x2,q4,e⟩:=oB e
 refine d_mks (s:=Sh.ro Sh.B6) (d2.get 3 rfl rfl) s6 (Sh.ro_lt _) rfl rfl rfl (Sh.M2 (x:=Ty.B6.mk 0 []) RdS.nil) q4 fun w2 H6 s7 k1=>?_
 have d3:=d2.next 3 rfl k1
 obtain⟨d4,rfl⟩:=((s7.curS (s:=Sh.ro Sh.B6) 0 rfl)).val
 refine hO (qs:=[(0,4,(.agg #[vi a0.Terms,vi a0.Nons,vi a0.Start,(vS d1 a0.Rules)])),(4,1,(vS d4 x2))]) rfl rfl (d_box (d3.get 5 rfl rfl) s7 rfl rfl fun b3 H7 s8 k2=>?_)
 have d5:=d3.next 5 rfl k2
 refine aj (v:=pV b3 0) rfl (aS aI (af (aa (v:=.bool true) rfl (ae (aq (P:=fun tm=>tm 1=(pV b1 0)∧tm 2=(pV b2 0)∧tm 5=w1∧tm 7=(pV b3 0)∧tm 8=(.bool true)∧True) ⟨h1,h2,h3,rfl,rfl,trivial⟩ ?_)))))
 intro _ i3
 obtain⟨h5,h6,h7,h8,h9,-⟩:=i3
 refine ah (af (aa h7 (aB rfl ((s8.curS (s:=Sh.ro Sh.B6) 2 rfl)).len (aa (v:=vi 0) rfl (ae ?_)))))
 obtain⟨y1,q7,e⟩:=oB e
 refine ax (aY (xs:=x1.1) (fun(i4:Nat) (s9:(List Ty.B6)) tm H=>tm 36=vi i4∧∃(Z2 V2:PH),Gw Z1 V1 Z2 V2∧Sat Z2 V2 H [pts b1 (.rw 0 [vi a0.Terms,vi a0.Nons,vi a0.Start,(vS d1 a0.Rules)]),pts b2 (.rw 0 [vi 0,(.slice none 0 0),(.slice none 0 0)]),pts b3 (.rw 0 [vi a0.Terms,vi a0.Nons,vi a0.Start,(vS d1 a0.Rules),(vS d4 x2),(.slice none 0 0)]),It.sl (Sh.ro Sh.B6) (vS d4 x2) s9,It.sl (Sh.ro Sh.B6) w1 x1.1]∧tm 1=(pV b1 0)∧tm 2=(pV b2 0)∧tm 7=(pV b3 0)∧tm 8=(.bool true)∧tm 34=w1∧tm 35=(vN x1.1)) (fun i4 x3 s9 s11 tm H9 q5 q6 j1 e1 k3=>?_) (fun tm H8 jd=>?_) q7 ⟨rfl,_,_,Gw.refl _ _,(s8.pick [4,3,0,1,2] rfl),h5,h6,h8,h9,rfl,rfl⟩)
 ·obtain⟨hti0,Z2,V2,g2,s10,h10,h11,h12,h13,h14,h15⟩:=j1
  unfold P.E2.b0 at e1
  refine af (an hti0 h15 (ae (ah (aW rfl (Int.ofNat_lt.2 q6) (ar (ah (ax (af (aG (v:=w1) h14 hti0 (s10.curS (s:=Sh.ro Sh.B6) 4 rfl) rfl (Pu.ix_nat.trans q5) fun p1 q8=>ip (p:=p1) 4 s10 rfl rfl rfl q8 (Pu.ix_nat.trans q5) fun Z3 V3 c5 g3 s12 h16=>?_)))))))))
  obtain⟨w3,rfl,h17⟩:=Sh.L9 h16
  refine bh s12 fun b4 H10 s13=>?_
  obtain⟨d6,rfl⟩:=(h17).val
  refine aM (us':=[vi x3.Kind,(vS d6 x3.Nons)]) 0 s13 rfl rfl rfl rfl rfl rfl rfl fun H11 s14=>ae (af (am rfl (ak 0 s14 rfl rfl rfl rfl (aB rfl (h17).len (aa (v:=vi 0) rfl (ae ?_))))))
  obtain⟨y2,q11,e1⟩:=oB e1
  refine ax (aY (xs:=x3.Nons) (fun(i5:Nat) (s15:(List Ty.B6)) tm H=>tm 43=vi i5∧∃(Z4 V4:PH),Gw Z3 V3 Z4 V4∧Sat Z4 V4 H [pts b1 (.rw 0 [vi a0.Terms,vi a0.Nons,vi a0.Start,(vS d1 a0.Rules)]),pts b2 (.rw 0 [vi 0,(.slice none 0 0),(.slice none 0 0)]),pts b3 (.rw 0 [vi a0.Terms,vi a0.Nons,vi a0.Start,(vS d1 a0.Rules),(vS d4 x2),(.slice none 0 0)]),It.sl (Sh.ro Sh.B6) (vS d4 x2) s15,pts b4 (.rw 0 [vi x3.Kind,(vS d6 x3.Nons)]),It.sl (Sh.ro Sh.B6) w1 x1.1]∧tm 1=(pV b1 0)∧tm 2=(pV b2 0)∧tm 7=(pV b3 0)∧tm 8=(.bool true)∧tm 10=(pV b4 0)∧tm 34=w1∧tm 35=(vN x1.1)∧tm 36=(vJ i4)∧tm 41=(vS d6 x3.Nons)∧tm 42=(vN x3.Nons)) (fun i5 x4 s15 s17 tm H13 q9 q10 j2 e2 k4=>?_) (fun tm H12 jd=>?_) q11 ⟨rfl,_,_,Gw.refl _ _,(s14.pick [1,2,3,4,0,5] rfl),h10,h11,h12,h13,rfl,h14,h15,hti0,rfl,rfl⟩)
  ·obtain⟨hti1,Z4,V4,g4,s16,h18,h19,h20,h21,h22,h23,h24,h25,h26,h27⟩:=j2
   unfold P.E2.b1 at e2
   refine af (an hti1 h27 (ae (ah (aW rfl (Int.ofNat_lt.2 q10) (ar (ah (ax (af (aG (v:=vS d6 x3.Nons) h26 hti1 (h17.mono g4.z) rfl (Pu.ix_nat.trans q9) fun p2 q12=>cf rfl (h17.mono g4.z) s16.z q12 (Pu.ix_nat.trans q9) (aa (v:=vi x4) rfl (ae (aC s16 fun n2 H14 s18 q13 d7=>aj h20 (cJ rfl (bC rfl (bn (q13 _ _ (ap.2 ⟨s18.curB 2 rfl,by simp⟩)) 2 s18 rfl rfl rfl rfl (aj (v:=vi x4) rfl (bn (q13 _ _ (ap.2 ⟨s18.curB 4 rfl,by simp⟩)) 4 s18 rfl h22 rfl rfl ?_)))))))))))))))))
   obtain⟨x5,q14,e2⟩:=oB e2
   refine au (v:=vS d4 x2) rfl rfl (s18.curS (s:=Sh.ro Sh.B6) 3 rfl) rfl q14 fun p3 q15=>cz 3 s18 rfl (Sh.ro_lt _) rfl rfl rfl q15 q14 rfl (Sh.M2 (x:=x3) (h17.mono g4.z)) fun H15 s19 k5=>?_
   have d8:=d7.keep k5
   refine aS aI (aF (bm (az hti1 rfl (aa (v:=vi (Pu.W ((i5:Int)+1))) rfl (ae ?_)))))
   obtain rfl:=oJ e2
   exact k4 _ _ ⟨(iv rfl (bq q10 (h17).bd)),_,_,g4,s19,h18,h19,h20,h21,h22,h23,h24,h25,h26,h27⟩
  obtain⟨hte1,Z5,V5,g5,s20,h28,h29,h30,h31,h32,h33,h34,h35,h36,h37⟩:=jd
  refine af (an hte1 h37 (ae (ah (aX rfl (Int.lt_irrefl _) (aP (aV (aV (bQ (aF (bm (az h35 rfl (aa (v:=vi (Pu.W ((i4:Int)+1))) rfl (ae ?_)))))))))))))
  obtain rfl:=oJ e1
  exact k3 _ _ ⟨(iv rfl (bq q6 ((s8.curS (s:=Sh.ro Sh.B6) 2 rfl)).bd)),_,_,(g2.trans (g3.trans g5)),(s20.pick [0,1,2,3,5] rfl),h28,h29,h30,h31,h33,h34⟩
 obtain⟨hte0,Z6,V6,g6,s21,h38,h39,h40,h41,h42,h43⟩:=jd
 refine af (an hte0 h43 (ae (ah (aX rfl (Int.lt_irrefl _) (aP (aV (aV (bQ (ah (af (ak 0 s21 rfl h38 rfl rfl ?_)))))))))))
 obtain⟨x6,q16,e⟩:=oB e
 obtain⟨Z7,V7,W2,g7,u2,c6,c7,-,c9,c8⟩:=Sat.call (l1:=[]) s21
 refine ao (mc rfl m0) (X.E7 nd.E7 c6 (hp1.mono (((g1.trans g6).trans g7).z.trans c6.zv)) q16) fun w4 H18 i6=>?_
 obtain⟨_,rfl,s22⟩:=i6
 have s23:=c8 _ _ s22
 refine aB rfl ((s23.curS (s:=Sh.bool) 0 rfl)).len (aa (v:=vi 0) rfl (ae ?_))
 obtain⟨y3,q19,e⟩:=oB e
 refine ax (aY (xs:=x6) (fun(i7:Nat) (s24:Bool) tm H=>tm 59=vi i7∧∃(Z8 V8:PH),Gw Z7 V7 Z8 V8∧Sat Z8 V8 H [pts b1 (.rw 0 [vi a0.Terms,vi a0.Nons,vi a0.Start,(vS d1 a0.Rules)]),pts b2 (.rw 0 [vi 0,(.slice none 0 0),(.slice none 0 0)]),pts b3 (.rw 0 [vi a0.Terms,vi a0.Nons,vi a0.Start,(vS d1 a0.Rules),(vS d4 x2),(.slice none 0 0)]),It.sl (Sh.ro Sh.B6) (vS d4 x2) y1,It.sl Sh.bool w4 x6]∧tm 1=(pV b1 0)∧tm 2=(pV b2 0)∧tm 7=(pV b3 0)∧tm 8=(.bool s24)∧tm 57=w4∧tm 58=(vN x6)) (fun i7 x7 s24 s26 tm H20 q17 q18 j3 e3 k6=>?_) (fun tm H19 jd=>?_) q19 ⟨rfl,_,_,Gw.refl _ _,(s23.pick [1,2,3,4,0] rfl),h38,h39,h40,h41,rfl,rfl⟩)
 ·obtain⟨hti2,Z8,V8,g8,s25,h44,h45,h46,h47,h48,h49⟩:=j3
  unfold P.E2.b2 at e3
  refine af (an hti2 h49 (ae (ah (aW rfl (Int.ofNat_lt.2 q18) (ar (ah (ax (af (aa hti2 (aG (v:=w4) h48 hti2 (s25.curS (s:=Sh.bool) 4 rfl) rfl (Pu.ix_nat.trans q17) fun p4 q20=>gm rfl (s25.curS (s:=Sh.bool) 4 rfl) pR q20 (Pu.ix_nat.trans q17) (aa (v:=vJ i7) rfl (aa (v:=.bool x7) rfl (ae (bm (aa h47 (aa (v:=.bool s24) rfl ?_))))))))))))))))
  obtain⟨y4,e4,e3⟩:=oB e3
  refine cq 14 (I:=fun tm H=>∃(Z9 V9:PH),Gw Z8 V8 Z9 V9∧Sat Z9 V9 H [pts b1 (.rw 0 [vi a0.Terms,vi a0.Nons,vi a0.Start,(vS d1 a0.Rules)]),pts b2 (.rw 0 [vi 0,(.slice none 0 0),(.slice none 0 0)]),pts b3 (.rw 0 [vi a0.Terms,vi a0.Nons,vi a0.Start,(vS d1 a0.Rules),(vS d4 x2),(.slice none 0 0)]),It.sl (Sh.ro Sh.B6) (vS d4 x2) y1,It.sl Sh.bool w4 x6]∧tm 1=(pV b1 0)∧tm 2=(pV b2 0)∧tm 7=(pV b3 0)∧tm 57=w4∧tm 58=(vN x6)∧tm 59=(vJ i7)∧tm 79=(.bool y4)) (fun k7=>?_) ?_
  ·rcases Bool.eq_false_or_eq_true s24 with q21|q21
   ·replace e4:=ay q21 e4
    refine aA rfl q21 (aa (v:=.bool x7) rfl (aA rfl q21 (cC rfl (aA rfl q21 (aa (v:=.bool (!x7)) rfl ?_)))))
    obtain⟨y5,e5,e4⟩:=oB e4
    refine cq 10 (I:=fun tm H=>∃(Z10 V10:PH),Gw Z8 V8 Z10 V10∧Sat Z10 V10 H [pts b1 (.rw 0 [vi a0.Terms,vi a0.Nons,vi a0.Start,(vS d1 a0.Rules)]),pts b2 (.rw 0 [vi 0,(.slice none 0 0),(.slice none 0 0)]),pts b3 (.rw 0 [vi a0.Terms,vi a0.Nons,vi a0.Start,(vS d1 a0.Rules),(vS d4 x2),(.slice none 0 0)]),It.sl (Sh.ro Sh.B6) (vS d4 x2) y1,It.sl Sh.bool w4 x6]∧tm 1=(pV b1 0)∧tm 2=(pV b2 0)∧tm 7=(pV b3 0)∧tm 57=w4∧tm 58=(vN x6)∧tm 59=(vJ i7)∧tm 65=(.bool s24)∧tm 66=(.bool x7)∧tm 67=(.bool (!x7))∧tm 68=(.bool (!x7))∧tm 78=(.bool y5)) (fun k8=>?_) ?_
    ·rcases Bool.eq_false_or_eq_true (!x7) with q22|q22
     ·replace e5:=ay q22 e5
      refine aD rfl q22 (aD rfl q22 (aD rfl q22 (aD rfl q22 (aD rfl q22 (aD rfl q22 (aD rfl q22 (aD rfl q22 (aD rfl q22 (aA rfl q21 (aT (a:=.bool true) rfl q22 rfl ?_))))))))))
      obtain rfl:=oJ e5
      exact k8 _ _ ⟨_,_,Gw.refl _ _,s25,h44,h45,h46,h48,h49,hti2,rfl,rfl,rfl,rfl,rfl⟩
     replace e5:=aR q22 e5
     refine aA rfl q22 (aa h46 (aA rfl q22 (bK rfl (aA rfl q22 (am rfl (aA rfl q22 (ak 2 s25 rfl rfl rfl rfl (aA rfl q22 (aa (v:=vJ i7) rfl (aA rfl q22 ?_))))))))))
     obtain⟨x8,q23,e5⟩:=oB e5
     refine aG (v:=vS d4 x2) rfl rfl (s25.curS (s:=Sh.ro Sh.B6) 3 rfl) rfl q23 fun p5 q24=>aA rfl q22 (jx rfl q24 fun p6 q25=>aA rfl q22 (jR rfl (s25.curS (s:=Sh.ro Sh.B6) 3 rfl) pR rfl q24 q25 q23 rfl fun c10 h68=>?_))
     obtain⟨w5,rfl,h69⟩:=Sh.L9 h68
     refine⟨_,rfl,?_⟩
     refine aA rfl q22 (dc rfl rfl (aA rfl q21 (aU (b:=.bool (decide (x8.Kind≠2))) rfl q22 rfl ?_)))
     obtain rfl:=oJ e5
     exact k8 _ _ ⟨_,_,Gw.refl _ _,s25,h44,h45,h46,h48,h49,hti2,rfl,rfl,rfl,rfl,rfl⟩
    intro _ H22 i8
    obtain⟨Z10,V10,g10,s28,h57,h58,h59,h60,h61,h62,h63,h64,h65,h66,h67⟩:=i8
    refine aT (a:=.bool y5) h63 q21 h67 ?_
    obtain rfl:=oJ e4
    exact k7 _ _ ⟨_,_,g10,s28,h57,h58,h59,h60,h61,h62,rfl⟩
   replace e4:=aR q21 e4
   refine aD rfl q21 (aD rfl q21 (aD rfl q21 (dv rfl (dv rfl (dv rfl (dv rfl (dv rfl (dv rfl (dv rfl (dv rfl (dv rfl (aD rfl q21 (aU (b:=.bool false) rfl q21 rfl ?_)))))))))))))
   obtain rfl:=oJ e4
   exact k7 _ _ ⟨_,_,Gw.refl _ _,s25,h44,h45,h46,h48,h49,hti2,rfl⟩
  intro _ H21 i9
  obtain⟨Z9,V9,g9,s27,h50,h51,h52,h53,h54,h55,h56⟩:=i9
  refine aa h56 (ae (aF (bm (az h55 rfl (aa (v:=vi (Pu.W ((i7:Int)+1))) rfl (ae ?_))))))
  obtain rfl:=oJ e3
  exact k6 _ _ ⟨(iv rfl (bq q18 ((s23.curS (s:=Sh.bool) 0 rfl)).bd)),_,_,(g8.trans g9),s27,h50,h51,h52,rfl,h53,h54⟩
 obtain⟨hte2,Z11,V11,g11,s29,h70,h71,h72,h73,h74,h75⟩:=jd
 refine af (an hte2 h75 (ae (ah (aX rfl (Int.lt_irrefl _) (aP (aV (aV (bQ (af (aa h72 ?_))))))))))
 obtain⟨Z12,V12,g12,s30,h76⟩:=s29.frzS 3 rfl
 replace h76:=h76.of_ro
 obtain⟨x9,q26,e⟩:=oB e
 have s31:=s30.push (ba (s:=Sh.sl Sh.D0))
 obtain⟨Z13,V13,W3,g13,u3,c11,c12,-,c14,c13⟩:=Sat.call (l1:=[pts b3 (.rw 0 [vi a0.Terms,vi a0.Nons,vi a0.Start,(vS d1 a0.Rules),(vS d4 x2),(.slice none 0 0)]),It.sl (Sh.sl Sh.D0) (.slice none 0 0) []]) (l2:=[pts b1 (.rw 0 [vi a0.Terms,vi a0.Nons,vi a0.Start,(vS d1 a0.Rules)]),pts b2 (.rw 0 [vi 0,(.slice none 0 0),(.slice none 0 0)]),It.sl Sh.bool w4 x6]) (s31.pick [3,0,1,2,4] rfl)
 refine ao (mc rfl m0) (X.F6 nd.F6 (a0:=Ty.G4.mk a0 y1 []) c11 (hp1.mono ((g1.trans (g6.trans (g7.trans (g11.trans g12)))).trans g13).z) (h76.mono g13.z) q26) fun _ H24 i10=>?_
 obtain⟨w6,w7,w8,rfl,s32⟩:=i10
 have s33:=c13 _ _ s32
 obtain⟨Z14,V14,g14,s34,h77⟩:=(s33.pull 1 rfl).frzR
 obtain⟨Z15,V15,g15,s35,h78⟩:=(s34.pull 1 rfl).frzR
 refine aa h72 ?_
 obtain⟨x10,q27,e⟩:=oB e
 obtain⟨d9,rfl⟩:=((h77.mono g15.z)).val
 obtain⟨d10,rfl⟩:=(h78).val
 obtain⟨d11,rfl⟩:=((s35.curS (s:=Sh.sl Sh.D0) 1 rfl)).val
 obtain⟨Z16,V16,W4,g16,u4,c15,c16,-,c18,c17⟩:=Sat.call (l1:=[pts b3 (.rw 0 [vi x9.1.g.Terms,vi x9.1.g.Nons,vi x9.1.g.Start,(vS d9 x9.1.g.Rules),(vS d10 x9.1.of_),(vS d11 x9.1.next_)]),It.sl (Sh.sl Sh.D0) (vS d11 x9.1.next_) x9.1.next_]) (l2:=[pts b1 (.rw 0 [vi a0.Terms,vi a0.Nons,vi a0.Start,(vS d1 a0.Rules)]),pts b2 (.rw 0 [vi 0,(.slice none 0 0),(.slice none 0 0)]),It.sl Sh.bool w4 x6]) s35
 refine ao (mc rfl m0) (X.F6 nd.F6 (a0:=x9.1) c15 (h77.mono (g15.trans g16).z) (h78.mono g16.z) q27) fun _ H25 i11=>?_
 obtain⟨w9,w10,w11,rfl,s36⟩:=i11
 have s37:=c17 _ _ s36
 obtain⟨Z17,V17,g17,s38,h79⟩:=(s37.pull 1 rfl).frzR
 obtain⟨Z18,V18,g18,s39,h80⟩:=(s38.pull 1 rfl).frzR
 refine aa (v:=vi x9.2) rfl (aa (v:=vi x10.2) rfl (ae (af (aa h72 (am h70 (ak 2 s39 rfl rfl rfl rfl (aa (v:=vi x9.2) rfl (aa (v:=vi x10.2) rfl ?_))))))))
 obtain⟨x11,q28,e⟩:=oB e
 obtain⟨d12,rfl⟩:=((h79.mono g18.z)).val
 obtain⟨d13,rfl⟩:=(h80).val
 obtain⟨d14,rfl⟩:=((s39.curS (s:=Sh.sl Sh.D0) 1 rfl)).val
 obtain⟨Z19,V19,W5,g19,u5,c19,c20,-,c22,c21⟩:=Sat.call (l1:=[pts b3 (.rw 0 [vi x10.1.g.Terms,vi x10.1.g.Nons,vi x10.1.g.Start,(vS d12 x10.1.g.Rules),(vS d13 x10.1.of_),(vS d14 x10.1.next_)]),It.sl (Sh.sl Sh.D0) (vS d14 x10.1.next_) x10.1.next_]) (l2:=[pts b1 (.rw 0 [vi a0.Terms,vi a0.Nons,vi a0.Start,(vS d1 a0.Rules)]),pts b2 (.rw 0 [vi 0,(.slice none 0 0),(.slice none 0 0)]),It.sl Sh.bool w4 x6]) s39
 refine ao (mc rfl (mc rfl (mc rfl (mc rfl m0)))) (X.B4 nd.B4 (a0:=x10.1) c19 (h79.mono (g18.trans g19).z) (h80.mono g19.z) q28) fun _ H26 i12=>?_
 obtain⟨w12,w13,w14,rfl,s40⟩:=i12
 have s41:=c21 _ _ s40
 obtain⟨Z20,V20,g20,s42,h81⟩:=(s41.pull 1 rfl).frzR
 obtain⟨Z21,V21,g21,s43,h82⟩:=(s42.pull 1 rfl).frzR
 refine ae (aq (P:=fun tm=>tm 2=(pV b2 0)∧tm 7=(pV b3 0)∧tm 8=(.bool y3)∧tm 15=vi x9.2∧tm 16=vi x10.2∧True) ⟨h71,h72,h73,rfl,rfl,trivial⟩ ?_)
 intro _ i13
 obtain⟨h83,h84,h85,h86,h87,-⟩:=i13
 refine ah (af (aa h84 (bK rfl (am rfl ?_))))
 obtain⟨d15,rfl⟩:=((h81.mono g21.z)).val
 obtain⟨d16,rfl⟩:=(h82).val
 obtain⟨d17,rfl⟩:=((s43.curS (s:=Sh.sl Sh.D0) 1 rfl)).val
 refine ak 0 s43 rfl rfl rfl rfl (aB rfl ((s43.curS (s:=Sh.sl Sh.D0) 1 rfl)).len (cH rfl rfl (ae (aK rfl (fun q29=>?_) (fun q29=>?_)))))
 ·replace e:=ay q29 e
  refine af (bV (qs:=[]) rfl rfl (aM (us':=[vi 0,(.slice none 0 0),(.slice none 0 0)]) 3 s43 rfl h83 rfl rfl rfl rfl rfl fun H27 s44=>aa (v:=.bool false) rfl (aa (v:=vi 2) rfl (ae (aL ?_)))))
  obtain rfl:=oJ e
  exact⟨.inr rfl,_,(ra3 (rac 3 s44 rfl h83 rfl rfl) (rat rfl) (rat rfl)),_,_,rfl,((((s44.push (ba (s:=Sh.int))).push (ba (s:=sI1))).pick [1,0] rfl).weak (g1.trans (g6.trans (g7.trans (g11.trans (g12.trans (g13.trans (g14.trans (g15.trans (g16.trans (g17.trans (g18.trans (g19.trans (g20.trans g21))))))))))))) hs.zv)⟩
 replace e:=be q29 e
 refine ar (af (aa h84 (aa h86 (aa h87 ?_))))
 obtain⟨Z22,V22,g22,s45,h88⟩:=s43.frzS 1 rfl
 obtain⟨x12,q30,e⟩:=oB e
 obtain⟨Z23,V23,W6,g23,u6,c23,c24,-,c26,c25⟩:=Sat.call (l1:=[]) s45
 refine ao (mc rfl (mc rfl (mc rfl m0))) (X.B8 nd.B8 (a0:=x11) c23 (h81.mono ((g21.trans g22).trans g23).z) (h82.mono (g22.trans g23).z) (h88.mono g23.z) (c26 0 _ _ rfl) q30) fun _ H28 i14=>?_
 obtain⟨w15,w16,rfl,s46⟩:=i14
 have s47:=c25 _ _ s46
 refine aa (v:=.tuple #[(.agg #[vi x12.1.Start,w15,w16]),(.bool x12.2)]) rfl (bz rfl rfl (bz rfl rfl (bh s47 fun b5 H29 s48=>?_)))
 obtain⟨d18,rfl⟩:=((s48.curS (s:=Sh.int) 1 rfl)).val
 obtain⟨d19,rfl⟩:=((s48.curS (s:=Sh.ro sI1) 2 rfl)).val
 refine aM (us':=[vi x12.1.Start,(vS d18 x12.1.Accept),(vS d19 x12.1.Next)]) 0 s48 rfl rfl rfl rfl rfl rfl rfl fun H30 s49=>aa (v:=.bool x12.2) rfl (ae (aq (P:=fun tm=>tm 2=(pV b2 0)∧tm 8=(.bool y3)∧tm 17=(pV b5 0)∧tm 18=(.bool x12.2)∧True) ⟨h83,h85,rfl,rfl,trivial⟩ ?_))
 intro _ i15
 obtain⟨h89,h90,h91,h92,-⟩:=i15
 refine ah (af (aa h92 (cC rfl (ae (bt rfl (fun q31=>?_) (fun q31=>?_))))))
 ·replace e:=ay q31 e
  refine af (bV (qs:=[]) rfl rfl (aM (us':=[vi 0,(.slice none 0 0),(.slice none 0 0)]) 5 s49 rfl h89 rfl rfl rfl rfl rfl fun H31 s50=>aa (v:=.bool false) rfl (aa (v:=vi 2) rfl (ae (aL ?_)))))
  obtain rfl:=oJ e
  exact⟨.inr rfl,_,(ra3 (rac 5 s50 rfl h89 rfl rfl) (rat rfl) (rat rfl)),_,_,rfl,((((s50.push (ba (s:=Sh.int))).push (ba (s:=sI1))).pick [1,0] rfl).weak (g1.trans (g6.trans (g7.trans (g11.trans (g12.trans (g13.trans (g14.trans (g15.trans (g16.trans (g17.trans (g18.trans (g19.trans (g20.trans (g21.trans (g22.trans g23))))))))))))))) hs.zv)⟩
 replace e:=aR q31 e
 refine ar (af (ak 0 s49 rfl h91 rfl rfl ?_))
 obtain⟨x13,q32,e⟩:=oB e
 obtain⟨Z24,V24,W7,g24,u7,c27,c28,-,c30,c29⟩:=Sat.call (l1:=[]) s49
 refine ao (mc rfl m0) (X.G0 nd.G0 c27 (c28 1 _ Sh.int _ _ rfl) (c28 2 _ (Sh.ro sI1) _ _ rfl) q32) fun _ H32 i16=>?_
 obtain⟨w17,w18,rfl,s51⟩:=i16
 have s52:=c29 _ _ s51
 refine aa (v:=.tuple #[(.agg #[vi x13.1.Start,w17,w18]),vi x13.2]) rfl (bz rfl rfl (bz rfl rfl ?_))
 obtain⟨d20,rfl⟩:=((s52.curS (s:=Sh.int) 0 rfl)).val
 obtain⟨d21,rfl⟩:=((s52.curS (s:=sI1) 1 rfl)).val
 refine aM (us':=[vi x13.1.Start,(vS d20 x13.1.Accept),(vS d21 x13.1.Next)]) 2 s52 rfl h91 rfl rfl rfl rfl rfl fun H33 s53=>aa (v:=vi x13.2) rfl (ae (af (ak 2 s53 rfl h91 rfl rfl (aa h90 (aa (v:=vi x13.2) rfl (aM (us':=[vi x13.1.Start,(vS d20 x13.1.Accept),(vS d21 x13.1.Next)]) 7 s53 rfl h89 rfl rfl rfl rfl rfl fun H34 s54=>aa (v:=.bool y3) rfl (aa (v:=vi x13.2) rfl (ae (aq (P:=fun tm=>tm 2=(pV b2 0)∧tm 3=(.bool y3)∧tm 4=vi x13.2∧True) ⟨h89,rfl,rfl,trivial⟩ ?_)))))))))
 intro _ i17
 obtain⟨h93,h94,h95,-⟩:=i17
 refine aL ?_
 obtain rfl:=oJ e
 exact⟨.inr rfl,_,(ra3 (rac 7 s54 rfl h93 rfl rfl) (rat h94) (rat h95)),_,_,rfl,((s54.pick [0,1] rfl).weak (g1.trans (g6.trans (g7.trans (g11.trans (g12.trans (g13.trans (g14.trans (g15.trans (g16.trans (g17.trans (g18.trans (g19.trans (g20.trans (g21.trans (g22.trans (g23.trans g24)))))))))))))))) hs.zv)⟩
structure Nd.K0 (T:FuncId→Option AFunc):Prop where
 own:Has T I.K0 F.K0
theorem X.K0 (nd:Nd.K0 T)(hs:Sat Z V H []){r:Ty.E5}(e:P.K0=some r):
 G T I.K0 [] H (fun rv H'=>∃(u1:Value),rv=(.agg #[vi r.Terms,vi r.Nons,vi r.Start,u1])∧Sat Z V H' [It.sl (Sh.ro Sh.D8) u1 r.Rules]):=by
 unfold P.K0 at e
 refine bu nd.own (af (bh hs fun b1 H1 s1=>ae (af (bV (qs:=[(0,1,(.bool true))]) rfl rfl (bP (s:=Sh.ro Sh.F1) (us:=[(.bool true),vi 0]) (qs:=[(0,2,(.agg #[(.bool true),vi 0]))]) (xs:=[(Ty.F1.mk true 0)]) s1 (Sh.ro_lt _) rfl rfl rfl (Els.cons (c:=[(.bool true),vi 0]) rfl Els.nil) rfl rfl fun w1 H2 s2=>?_)))))
 obtain⟨d1,rfl⟩:=((s2.curS (s:=Sh.ro Sh.F1) 0 rfl)).val
 refine bV (qs:=[(1,1,(.slice d1 [(Ty.F1.mk true 0)].length [(Ty.F1.mk true 0)].length))]) rfl rfl (bV (qs:=[(0,1,(.bool true)),(1,1,(vi 1))]) rfl rfl (bV (qs:=[]) rfl rfl (bP (s:=Sh.ro Sh.F1) (us:=[(.bool true),vi 1,(.bool false),vi 0]) (qs:=[(0,2,(.agg #[(.bool true),vi 1])),(2,2,(.agg #[(.bool false),vi 0]))]) (xs:=[(Ty.F1.mk true 1),(Ty.F1.mk false 0)]) s2 (Sh.ro_lt _) rfl rfl rfl (Els.cons (c:=[(.bool true),vi 1]) rfl (Els.cons (c:=[(.bool false),vi 0]) rfl Els.nil)) rfl rfl fun w2 H3 s3=>?_)))
 obtain⟨d2,rfl⟩:=((s3.curS (s:=Sh.ro Sh.F1) 0 rfl)).val
 refine bV (qs:=[(1,1,(.slice d2 [(Ty.F1.mk true 1),(Ty.F1.mk false 0)].length [(Ty.F1.mk true 1),(Ty.F1.mk false 0)].length))]) rfl rfl ?_
 obtain⟨Z1,V1,g1,s4,h1⟩:=s3.frzS 1 rfl
 replace h1:=h1.of_ro
 obtain⟨Z2,V2,g2,s5,h2⟩:=s4.frzS 0 rfl
 replace h2:=h2.of_ro
 refine bP (s:=Sh.ro Sh.D8) (us:=[vi 0,(.slice d1 [(Ty.F1.mk true 0)].length [(Ty.F1.mk true 0)].length),vi 0,(.slice d2 [(Ty.F1.mk true 1),(Ty.F1.mk false 0)].length [(Ty.F1.mk true 1),(Ty.F1.mk false 0)].length)]) (qs:=[(0,2,(.agg #[vi 0,(.slice d1 [(Ty.F1.mk true 0)].length [(Ty.F1.mk true 0)].length)])),(2,2,(.agg #[vi 0,(.slice d2 [(Ty.F1.mk true 1),(Ty.F1.mk false 0)].length [(Ty.F1.mk true 1),(Ty.F1.mk false 0)].length)]))]) (xs:=[(Ty.D8.mk 0 [(Ty.F1.mk true 0)]),(Ty.D8.mk 0 [(Ty.F1.mk true 1),(Ty.F1.mk false 0)])]) s5 (Sh.ro_lt _) rfl rfl rfl (Els.cons (c:=[vi 0,(.slice d1 [(Ty.F1.mk true 0)].length [(Ty.F1.mk true 0)].length)]) (Sh.M4 (x:=Ty.D8.mk 0 [(Ty.F1.mk true 0)]) (h1.mono g2.z)) (Els.cons (c:=[vi 0,(.slice d2 [(Ty.F1.mk true 1),(Ty.F1.mk false 0)].length [(Ty.F1.mk true 1),(Ty.F1.mk false 0)].length)]) (Sh.M4 (x:=Ty.D8.mk 0 [(Ty.F1.mk true 1),(Ty.F1.mk false 0)]) h2) Els.nil)) rfl rfl fun w3 H4 s6=>?_
 obtain⟨d3,rfl⟩:=((s6.curS (s:=Sh.ro Sh.D8) 0 rfl)).val
 refine bV (qs:=[(0,1,(vi 2)),(1,1,(vi 1)),(3,1,(.slice d3 [(Ty.D8.mk 0 [(Ty.F1.mk true 0)]),(Ty.D8.mk 0 [(Ty.F1.mk true 1),(Ty.F1.mk false 0)])].length [(Ty.D8.mk 0 [(Ty.F1.mk true 0)]),(Ty.D8.mk 0 [(Ty.F1.mk true 1),(Ty.F1.mk false 0)])].length))]) rfl rfl (aM (us':=[vi 2,vi 1,vi 0,(.slice d3 [(Ty.D8.mk 0 [(Ty.F1.mk true 0)]),(Ty.D8.mk 0 [(Ty.F1.mk true 1),(Ty.F1.mk false 0)])].length [(Ty.D8.mk 0 [(Ty.F1.mk true 0)]),(Ty.D8.mk 0 [(Ty.F1.mk true 1),(Ty.F1.mk false 0)])].length)]) 1 s6 rfl rfl rfl rfl rfl rfl rfl fun H5 s7=>ae (aq (P:=fun tm=>tm 0=(pV b1 0)∧True) ⟨rfl,trivial⟩ ?_))
 intro _ i1
 obtain⟨h3,-⟩:=i1
 refine aL ?_
 obtain rfl:=oJ e
 exact⟨.inr rfl,_,(arB 1 s7 rfl h3 rfl rfl),_,rfl,((s7.pick [0] rfl).weak (g1.trans g2) hs.zv)⟩
structure Nd.D2 (T:FuncId→Option AFunc):Prop where
 own_parlmake_tree:Has T I.D2 F.D2
 C3:Nd.C3 T
theorem X.parlmake_tree_rec {T:FuncId→Option AFunc}(nd:Nd.D2 T):∀φ:Nat,(∀{Z V:PH} {H:Hp} {v1:Value} {v2:Value} {o1:Nat} {o2:Nat} {a0:Ty.E5} {a1:Ty.F1} {a2:Ty.J5} {a3:Int} {a4:Int} (_:Sat Z V H [pts o1 (.rw 0 [v2]),pts o2 (.rw 0 [vi a3])]) (_:RdS Sh.D8 Z v1 a0.Rules) (_:RdS Sh.int Z v2 a2.l) {r:(Ty.J5×Int×Ty.G3×Bool)} (_:P.D2 φ a0 a1 a2 a3 a4=some r),G T I.D2 [(.agg #[vi a0.Terms,vi a0.Nons,vi a0.Start,v1]),(.agg #[(.bool a1.Term),vi a1.N]),(pV o1 0),(pV o2 0),vi a4] H (fun rv H'=>∃(u1:Value) (u2:Value),rv=(.tuple #[(.agg #[vi r.2.2.1.Rule,vi r.2.2.1.Term,u2]),(.bool r.2.2.2)])∧Sat Z V H' [pts o1 (.rw 0 [u1]),Sh.it (Sh.ro sI1) [u1] r.1.l,pts o2 (.rw 0 [vi r.2.1]),It.sl (Sh.ro Sh.G3) u2 r.2.2.1.Kids])):=by
 intro φ
 induction φ with
 | zero=>
   intro Z V H v1 v2 o1 o2 a0 a1 a2 a3 a4 hs hp1 hp2 r e
   rw [P.D2] at e;cases e
 | succ φ ih=>
   intro Z V H v1 v2 o1 o2 a0 a1 a2 a3 a4 hs hp1 hp2 r e
   rw [P.D2] at e
   refine bu nd.own_parlmake_tree (af ?_)
   obtain⟨d1,rfl⟩:=(hp1).val
   refine ce hs rfl rfl fun b1 H1 s1=>ce s1 rfl rfl fun b2 H2 s2=>bh s2 fun b3 H3 s3=>aa (v:=.bool false) rfl (ae (ah (af (aa (v:=pV o2 0) rfl (bK rfl (ak 4 s3 rfl rfl rfl rfl (bv rfl rfl (bK rfl (aM (us':=[(vi (Pu.W (a3-1)))]) 4 s3 rfl rfl rfl rfl rfl rfl rfl fun H4 s4=>ae (af (aa (v:=pV o2 0) rfl (bK rfl (ak 4 s4 rfl rfl rfl rfl (an rfl rfl (aa (v:=.bool (decide ((Pu.W (a3-1))<0))) rfl (cq 3 (I:=fun tm H=>tm 32= .bool ((decide ((Pu.W (a3-1))<0)) ||(decide (a4<0)))∧(∃(Z1 V1:PH),Gw Z V Z1 V1∧Sat Z1 V1 H [pts o1 (.rw 0 [v2]),pts o2 (.rw 0 [(vi (Pu.W (a3-1)))]),pts b1 (.rw 0 [vi a0.Terms,vi a0.Nons,vi a0.Start,(vS d1 a0.Rules)]),pts b2 (.rw 0 [(.bool a1.Term),vi a1.N]),pts b3 (.rw 0 [vi 0,vi 0,(.slice none 0 0)])]∧tm 2=(pV o1 0)∧tm 3=(pV o2 0)∧tm 4=vi a4∧tm 5=(pV b1 0)∧tm 6=(pV b2 0)∧tm 10=(pV b3 0))) (fun k1=>?_) ?_))))))))))))))))
   ·rcases Bool.eq_false_or_eq_true (decide ((Pu.W (a3-1))<0)) with q1|q1
    ·refine aD rfl q1 (aD rfl q1 (aT (a:=.bool true) rfl q1 rfl ?_))
     exact k1 _ _ ⟨gf rfl (by first|(rw [q1];first|done|rfl)|simp [q1]),_,_,Gw.refl _ _,(s4.pick [3,4,2,1,0] rfl),rfl,rfl,rfl,rfl,rfl,rfl⟩
    refine aA rfl q1 (aa (v:=vi a4) rfl (aA rfl q1 (an rfl rfl (aU (b:=.bool (decide (a4<0))) rfl q1 rfl ?_))))
    exact k1 _ _ ⟨gf rfl (by first|(rw [q1];first|done|rfl)|simp [q1]),_,_,Gw.refl _ _,(s4.pick [3,4,2,1,0] rfl),rfl,rfl,rfl,rfl,rfl,rfl⟩
   intro _ H5 i1
   obtain⟨h7,Z1,V1,g1,s5,h1,h2,h3,h4,h5,h6⟩:=i1
   refine ae (bt h7 (fun q2=>?_) (fun q2=>?_))
   ·replace e:=ay q2 e
    refine af (bV (qs:=[]) rfl rfl (aM (us':=[vi 0,vi 0,(.slice none 0 0)]) 4 s5 rfl h6 rfl rfl rfl rfl rfl fun H6 s6=>aa (v:=.bool false) rfl (ae (aL ?_))))
    obtain⟨d2,rfl⟩:=((hp2.mono g1.z)).val
    obtain rfl:=oJ e
    exact⟨.inr rfl,_,(ra2 (rac 4 s6 rfl h6 rfl rfl) (rat rfl)),_,_,rfl,((((s6.push (cP (cA (hp2.mono g1.z)))).push (ba (s:=Sh.ro Sh.G3))).pick [2,1,3,0] rfl).weak g1 hs.zv)⟩
   replace e:=aR q2 e
   refine ar (ah (af (am h5 (ak 3 s5 rfl rfl rfl rfl (ae (bt rfl (fun q3=>?_) (fun q3=>?_)))))))
   ·replace e:=ay q3 e
    refine af (am h5 (ak 3 s5 rfl rfl rfl rfl (bV (qs:=[(0,1,(vi (-1))),(1,1,(vi a1.N))]) rfl rfl (aM (us':=[(vi (-1)),vi a1.N,(.slice none 0 0)]) 4 s5 rfl h6 rfl rfl rfl rfl rfl fun H7 s7=>aa (v:=.bool true) rfl (ae (aL ?_))))))
    obtain⟨d3,rfl⟩:=((hp2.mono g1.z)).val
    obtain rfl:=oJ e
    exact⟨.inr rfl,_,(ra2 (rac 4 s7 rfl h6 rfl rfl) (rat rfl)),_,_,rfl,((((s7.push (cP (cA (hp2.mono g1.z)))).push (ba (s:=Sh.ro Sh.G3))).pick [2,1,3,0] rfl).weak g1 hs.zv)⟩
   replace e:=aR q3 e
   refine ar (af (aa (v:=.slice none 0 0) rfl (ae (ah (af (am h4 (ak 2 s5 rfl rfl rfl rfl (aB rfl ((hp1.mono g1.z)).len (aa (v:=vi 0) rfl (ae ?_))))))))))
   obtain⟨y1,q6,e⟩:=oB e
   refine ax (aY (xs:=a0.Rules) (fun(i2:Nat) (s8:(List Int)) tm H=>tm 42=vi i2∧∃(Z2 V2:PH) (w1:Value),Gw Z1 V1 Z2 V2∧Sat Z2 V2 H [pts o1 (.rw 0 [v2]),pts o2 (.rw 0 [(vi (Pu.W (a3-1)))]),pts b1 (.rw 0 [vi a0.Terms,vi a0.Nons,vi a0.Start,(vS d1 a0.Rules)]),pts b2 (.rw 0 [(.bool a1.Term),vi a1.N]),pts b3 (.rw 0 [vi 0,vi 0,(.slice none 0 0)]),It.sl Sh.int w1 s8]∧tm 2=(pV o1 0)∧tm 3=(pV o2 0)∧tm 4=vi a4∧tm 5=(pV b1 0)∧tm 6=(pV b2 0)∧tm 10=(pV b3 0)∧tm 12=w1∧tm 40=(vS d1 a0.Rules)∧tm 41=(vN a0.Rules)) (fun i2 x1 s8 s10 tm H9 q4 q5 j1 e1 k2=>?_) (fun tm H8 jd=>?_) q6 ⟨rfl,_,_,_,Gw.refl _ _,((s5.push (ba (s:=Sh.int))).pick [1,2,3,4,5,0] rfl),h1,h2,h3,h4,h5,h6,rfl,rfl,rfl⟩)
   ·obtain⟨hti0,Z2,V2,w1,g2,s9,h8,h9,h10,h11,h12,h13,h14,h15,h16⟩:=j1
    unfold P.D2.b0 at e1
    refine af (an hti0 h16 (ae (ah (aW rfl (Int.ofNat_lt.2 q5) (ar (ah (ax (af (aa hti0 (aG (v:=vS d1 a0.Rules) h15 hti0 (hp1.mono (g1.trans g2).z) rfl (Pu.ix_nat.trans q4) fun p1 q7=>cy rfl (hp1.mono (g1.trans g2).z) s9.z rfl q7 (Pu.ix_nat.trans q4) fun c1 h17=>?_))))))))))
    obtain⟨w2,rfl,h18⟩:=Sh.L8 h17
    refine bh s9 fun b4 H10 s11=>aa (v:=vJ i2) rfl ?_
    obtain⟨d4,rfl⟩:=(h18).val
    refine aM (us':=[vi x1.Left,(vS d4 x1.Right)]) 0 s11 rfl rfl rfl rfl rfl rfl rfl fun H11 s12=>ae (af (am rfl (ak 0 s12 rfl rfl rfl rfl (am h12 (ak 4 s12 rfl rfl rfl rfl (bY rfl rfl (ae (aq (P:=fun tm=>tm 2=(pV o1 0)∧tm 3=(pV o2 0)∧tm 4=vi a4∧tm 5=(pV b1 0)∧tm 6=(pV b2 0)∧tm 10=(pV b3 0)∧tm 12=w1∧tm 13=(vJ i2)∧tm 40=(vS d1 a0.Rules)∧tm 41=(vN a0.Rules)∧tm 42=(vJ i2)∧tm 51=(.bool (decide (x1.Left=a1.N)))∧True) ⟨h8,h9,h10,h11,h12,h13,h14,rfl,h15,h16,hti0,rfl,trivial⟩ ?_))))))))
    intro _ i3
    obtain⟨h19,h20,h21,h22,h23,h24,h25,h26,h27,h28,h29,h30,-⟩:=i3
    obtain⟨y2,e2,e1⟩:=oB e1
    refine aZ (I:=fun tm H=>∃(Z3 V3:PH) (w3:Value),Gw Z2 V2 Z3 V3∧Sat Z3 V3 H [pts o1 (.rw 0 [v2]),pts o2 (.rw 0 [(vi (Pu.W (a3-1)))]),pts b1 (.rw 0 [vi a0.Terms,vi a0.Nons,vi a0.Start,(vS d1 a0.Rules)]),pts b2 (.rw 0 [(.bool a1.Term),vi a1.N]),pts b3 (.rw 0 [vi 0,vi 0,(.slice none 0 0)]),It.sl Sh.int w3 y2]∧tm 2=(pV o1 0)∧tm 3=(pV o2 0)∧tm 4=vi a4∧tm 5=(pV b1 0)∧tm 6=(pV b2 0)∧tm 10=(pV b3 0)∧tm 12=w3∧tm 40=(vS d1 a0.Rules)∧tm 41=(vN a0.Rules)∧tm 42=(vJ i2)) (fun k3=>?_) ?_
    ·refine aK h30 (fun q8=>?_) (fun q8=>?_)
     ·replace e2:=ay q8 e2
      refine bm (aa h25 (aa h26 (bP (s:=Sh.int) (us:=[(vJ i2)]) (qs:=[(0,1,(vJ i2))]) (xs:=[(i2:Int)]) s12 Sh.G6 rfl rfl rfl (Els.cons (c:=[(vJ i2)]) rfl Els.nil) rfl rfl fun w4 H13 s14=>?_)))
      obtain⟨x2,q9,e2⟩:=oB e2
      refine cp 7 s14 rfl Sh.G6 rfl rfl rfl rfl (s14.curS (s:=Sh.int) 0 rfl) pR (fun h=>h) (by decide) q9 fun w5 H14 s15=>aa (v:=w5) rfl (ae ?_)
      obtain rfl:=oJ e2
      exact k3 _ _ ⟨_,_,_,Gw.refl _ _,(s15.pick [2,3,4,5,6,7] rfl),h19,h20,h21,h22,h23,h24,rfl,h27,h28,h29⟩
     replace e2:=be q8 e2
     refine ar ?_
     obtain rfl:=oJ e2
     exact k3 _ _ ⟨_,_,_,Gw.refl _ _,(s12.pick [1,2,3,4,5,6] rfl),h19,h20,h21,h22,h23,h24,h25,h27,h28,h29⟩
    intro _ H12 i4
    obtain⟨Z3,V3,w3,g3,s13,h31,h32,h33,h34,h35,h36,h37,h38,h39,h40⟩:=i4
    refine aF (bm (az h40 rfl (aa (v:=vi (Pu.W ((i2:Int)+1))) rfl (ae ?_))))
    obtain rfl:=oJ e1
    exact k2 _ _ ⟨(iv rfl (bq q5 ((hp1.mono g1.z)).bd)),_,_,_,(g2.trans g3),s13,h31,h32,h33,h34,h35,h36,h37,h38,h39⟩
   obtain⟨hte0,Z4,V4,w6,g4,s16,h41,h42,h43,h44,h45,h46,h47,h48,h49⟩:=jd
   refine af (an hte0 h49 (ae (ah (aX rfl (Int.lt_irrefl _) (aP (aV (aV (bQ (ah (af (aa h47 (aB rfl ((s16.curS (s:=Sh.int) 5 rfl)).len (bY rfl rfl (ae (aK rfl (fun q10=>?_) (fun q10=>?_))))))))))))))))
   ·replace e:=ay q10 e
    refine af (bV (qs:=[]) rfl rfl (aM (us':=[vi 0,vi 0,(.slice none 0 0)]) 4 s16 rfl h46 rfl rfl rfl rfl rfl fun H16 s17=>aa (v:=.bool false) rfl (ae (aL ?_))))
    obtain⟨d5,rfl⟩:=((hp2.mono (g1.trans g4).z)).val
    obtain rfl:=oJ e
    exact⟨.inr rfl,_,(ra2 (rac 4 s17 rfl h46 rfl rfl) (rat rfl)),_,_,rfl,((((s17.push (cP (cA (hp2.mono (g1.trans g4).z)))).push (ba (s:=Sh.ro Sh.G3))).pick [2,1,3,0] rfl).weak (g1.trans g4) hs.zv)⟩
   replace e:=be q10 e
   refine ar (af (aa h47 (aa h41 (aa h47 (aB rfl ((s16.curS (s:=Sh.int) 5 rfl)).len ?_)))))
   obtain⟨x3,q11,e⟩:=oB e
   obtain⟨d6,rfl⟩:=((hp2.mono (g1.trans g4).z)).val
   obtain⟨Z5,V5,W1,g5,u1,c2,c3,-,c5,c4⟩:=Sat.call (l1:=[pts o1 (.rw 0 [(vS d6 a2.l)])]) (l2:=[pts o2 (.rw 0 [(vi (Pu.W (a3-1)))]),pts b1 (.rw 0 [vi a0.Terms,vi a0.Nons,vi a0.Start,(vS d1 a0.Rules)]),pts b2 (.rw 0 [(.bool a1.Term),vi a1.N]),pts b3 (.rw 0 [vi 0,vi 0,(.slice none 0 0)]),It.sl Sh.int w6 y1]) s16
   refine ao (mc rfl (mc rfl m0)) (X.C3 nd.C3 (a0:=a2) c2 (hp2.mono ((g1.trans g4).trans g5).z) q11) fun _ H17 i5=>?_
   obtain⟨w7,rfl,s18⟩:=i5
   have s19:=c4 _ _ s18
   obtain⟨Z6,V6,g6,s20,h50⟩:=(s19.pull 1 rfl).frzR
   obtain⟨x4,q12,e⟩:=oB e
   refine aG (v:=w6) rfl rfl (s20.curS (s:=Sh.int) 5 rfl) rfl q12 fun p2 q13=>cf rfl (s20.curS (s:=Sh.int) 5 rfl) pR q13 q12 (bV (qs:=[(0,1,(vi x4))]) rfl rfl (bh s20 fun b5 H18 s21=>aM (us':=[vi x4,vi 0,(.slice none 0 0)]) 0 s21 rfl rfl rfl rfl rfl rfl rfl fun H19 s22=>ae (aq (P:=fun tm=>tm 2=(pV o1 0)∧tm 3=(pV o2 0)∧tm 4=vi a4∧tm 5=(pV b1 0)∧tm 10=(pV b3 0)∧tm 15=(pV b5 0)∧True) ⟨h41,h42,h43,h44,h46,rfl,trivial⟩ ?_)))
   intro _ i6
   obtain⟨h51,h52,h53,h54,h55,h56,-⟩:=i6
   refine ah (af (am h54 (ak 3 s22 rfl rfl rfl rfl (am h56 (ak 0 s22 rfl rfl rfl rfl ?_)))))
   obtain⟨x5,q14,e⟩:=oB e
   refine aG (v:=vS d1 a0.Rules) rfl rfl (hp1.mono (g1.trans (g4.trans (g5.trans g6))).z) rfl q14 fun p3 q15=>jx rfl q15 fun p4 q16=>jR rfl (hp1.mono (g1.trans (g4.trans (g5.trans g6))).z) s22.z rfl q15 q16 q14 rfl fun c6 h57=>?_
   obtain⟨w8,rfl,h58⟩:=Sh.L8 h57
   refine⟨_,rfl,?_⟩
   refine aB rfl (h58).len (aa (v:=vi 0) rfl (ae ?_))
   obtain⟨y3,q19,e⟩:=oB e
   refine aZ (I:=fun tm H=>∃(s25:((List Int)×Int×(List Ty.G3))),y3= .out s25∧(∃(Z8 V8:PH) (w11:Value) (w12:Value),Gw Z6 V6 Z8 V8∧Sat Z8 V8 H [pts o1 (.rw 0 [w12]),pts o2 (.rw 0 [vi s25.2.1]),pts b1 (.rw 0 [vi a0.Terms,vi a0.Nons,vi a0.Start,(vS d1 a0.Rules)]),pts b3 (.rw 0 [vi 0,vi 0,(.slice none 0 0)]),pts b5 (.rw 0 [vi x4,vi 0,w11]),It.sl (Sh.ro Sh.G3) w11 s25.2.2]∧tm 2=(pV o1 0)∧tm 3=(pV o2 0)∧tm 4=vi a4∧tm 5=(pV b1 0)∧tm 10=(pV b3 0)∧tm 15=(pV b5 0)∧tm 75=w8∧tm 76=(vN x5.Right)∧RdS Sh.int Z8 w12 s25.1)) (fun k7=>?_) ?_
   ·refine ax (cB (xs:=x5.Right) (fun(i7:Nat) (s23:((List Int)×Int×(List Ty.G3))) tm H=>tm 77=vi i7∧∃(Z7 V7:PH) (w9:Value) (w10:Value),Gw Z6 V6 Z7 V7∧Sat Z7 V7 H [pts o1 (.rw 0 [w10]),pts o2 (.rw 0 [vi s23.2.1]),pts b1 (.rw 0 [vi a0.Terms,vi a0.Nons,vi a0.Start,(vS d1 a0.Rules)]),pts b3 (.rw 0 [vi 0,vi 0,(.slice none 0 0)]),pts b5 (.rw 0 [vi x4,vi 0,w9]),It.sl (Sh.ro Sh.G3) w9 s23.2.2]∧tm 2=(pV o1 0)∧tm 3=(pV o2 0)∧tm 4=vi a4∧tm 5=(pV b1 0)∧tm 10=(pV b3 0)∧tm 15=(pV b5 0)∧tm 75=w8∧tm 76=(vN x5.Right)∧RdS Sh.int Z7 w10 s23.1) (fun i7 x6 s23 y4 tm H21 q17 q18 j2 e3 k4 k5 k6=>?_) (fun s23 tm H20 jf jd=>?_) q19 ⟨rfl,_,_,_,_,Gw.refl _ _,((s22.push (ba (s:=Sh.ro Sh.G3))).pick [2,3,4,6,1,0] rfl),h51,h52,h53,h54,h55,h56,rfl,rfl,h50⟩)
    ·obtain⟨hti1,Z7,V7,w9,w10,g7,s24,h60,h61,h62,h63,h64,h65,h66,h67,h59⟩:=j2
     unfold P.D2.b1 at e3
     refine af (an hti1 h67 (ae (ah (aW rfl (Int.ofNat_lt.2 q18) (ar (ah (ax (af (aG (v:=w8) h66 hti1 (h58.mono g7.z) rfl (Pu.ix_nat.trans q17) fun p5 q20=>cy rfl (h58.mono g7.z) s24.z rfl q20 (Pu.ix_nat.trans q17) fun c7 h77=>?_)))))))))
     obtain rfl:=h77
     refine bh s24 fun b6 H23 s27=>aM (us':=[(.bool x6.Term),vi x6.N]) 0 s27 rfl rfl rfl rfl rfl rfl rfl fun H24 s28=>ae (af (ak 3 s28 rfl h63 rfl rfl (ak 0 s28 rfl rfl rfl rfl (aa h60 (aa h61 (aa h62 (bv rfl rfl ?_)))))))
     obtain⟨x7,q21,e3⟩:=oB e3
     obtain⟨d7,rfl⟩:=(h59).val
     obtain⟨Z9,V9,W2,g9,u2,c8,c9,-,c11,c10⟩:=Sat.call (l1:=[pts o1 (.rw 0 [(vS d7 s23.1)]),pts o2 (.rw 0 [vi s23.2.1])]) (l2:=[pts b6 (.rw 0 [(.bool x6.Term),vi x6.N]),pts b1 (.rw 0 [vi a0.Terms,vi a0.Nons,vi a0.Start,(vS d1 a0.Rules)]),pts b3 (.rw 0 [vi 0,vi 0,(.slice none 0 0)]),pts b5 (.rw 0 [vi x4,vi 0,w9]),It.sl (Sh.ro Sh.G3) w9 s23.2.2]) (s28.pick [1,2,0,3,4,5,6] rfl)
     refine ao (mc rfl (mc rfl (mc rfl (mc rfl (mc rfl m0))))) (ih (a2:=Ty.J5.mk s23.1) (a3:=s23.2.1) c8 (hp1.mono ((g1.trans (g4.trans (g5.trans (g6.trans g7)))).trans g9).z) (h59.mono g9.z) q21) fun _ H25 i8=>?_
     obtain⟨w13,w14,rfl,s29⟩:=i8
     have s30:=c10 _ _ s29
     obtain⟨Z10,V10,g10,s31,h78⟩:=(s30.pull 1 rfl).frzR
     refine aa (v:=.tuple #[(.agg #[vi x7.2.2.1.Rule,vi x7.2.2.1.Term,w14]),(.bool x7.2.2.2)]) rfl (bz rfl rfl (bz rfl rfl (bh s31 fun b7 H26 s32=>?_)))
     obtain⟨d8,rfl⟩:=((s32.curS (s:=Sh.ro Sh.G3) 3 rfl)).val
     refine aM (us':=[vi x7.2.2.1.Rule,vi x7.2.2.1.Term,(vS d8 x7.2.2.1.Kids)]) 0 s32 rfl rfl rfl rfl rfl rfl rfl fun H27 s33=>aa (v:=.bool x7.2.2.2) rfl (ae (aq (P:=fun tm=>tm 2=(pV o1 0)∧tm 3=(pV o2 0)∧tm 4=vi a4∧tm 5=(pV b1 0)∧tm 10=(pV b3 0)∧tm 15=(pV b5 0)∧tm 18=(pV b7 0)∧tm 19=(.bool x7.2.2.2)∧tm 75=w8∧tm 76=(vN x5.Right)∧tm 77=(vJ i7)∧True) ⟨h60,h61,h62,h63,h64,h65,rfl,rfl,h66,h67,hti1,trivial⟩ ?_))
     intro _ i9
     obtain⟨h79,h80,h81,h82,h83,h84,h85,h86,h87,h88,h89,-⟩:=i9
     refine ah (af (aa h86 (cC rfl (ae (bt rfl (fun q22=>?_) (fun q22=>?_))))))
     ·replace e3:=ay q22 e3
      refine af (bV (qs:=[]) rfl rfl (aM (us':=[vi 0,vi 0,(.slice none 0 0)]) 6 s33 rfl h83 rfl rfl rfl rfl rfl fun H28 s34=>aa (v:=.bool false) rfl (ae (aL ?_))))
      have e4:=bZ (k6 _ (sJ e3)) e
      obtain⟨d9,rfl⟩:=(h78).val
      obtain rfl:=oJ e4
      exact⟨.inr rfl,_,(ra2 (rac 6 s34 rfl h83 rfl rfl) (rat rfl)),_,_,rfl,((((s34.push (cP (cA h78))).push (ba (s:=Sh.ro Sh.G3))).pick [3,1,4,0] rfl).weak (g1.trans (g4.trans (g5.trans (g6.trans (g7.trans (g9.trans g10)))))) hs.zv)⟩
     replace e3:=aR q22 e3
     refine ar (bm (am h84 ?_))
     obtain⟨d10,rfl⟩:=((s33.curS (s:=Sh.ro Sh.G3) 8 rfl)).val
     refine ak 7 s33 rfl rfl rfl rfl (ak 0 s33 rfl h85 rfl rfl ?_)
     obtain⟨Z11,V11,g11,s35,h90⟩:=s33.frzS 3 rfl
     replace h90:=h90.of_ro
     refine bP (s:=Sh.ro Sh.G3) (us:=[vi x7.2.2.1.Rule,vi x7.2.2.1.Term,(vS d8 x7.2.2.1.Kids)]) (qs:=[(0,3,(.agg #[vi x7.2.2.1.Rule,vi x7.2.2.1.Term,(vS d8 x7.2.2.1.Kids)]))]) (xs:=[x7.2.2.1]) s35 (Sh.ro_lt _) rfl rfl rfl (Els.cons (c:=[vi x7.2.2.1.Rule,vi x7.2.2.1.Term,(vS d8 x7.2.2.1.Kids)]) (Sh.api_Tree_cl (x:=x7.2.2.1) h90) Els.nil) rfl rfl fun w15 H29 s36=>?_
     obtain⟨Z12,V12,g12,s37,h91⟩:=s36.frzS 0 rfl
     replace h91:=h91.of_ro
     obtain⟨x8,q23,e3⟩:=oB e3
     refine cp 7 s37 rfl (Sh.ro_lt _) rfl rfl rfl rfl h91 s37.z (fun h=>h) (by decide) q23 fun w16 H30 s38=>am h84 ?_
     obtain⟨d11,rfl⟩:=((s38.curS (s:=Sh.ro Sh.G3) 7 rfl)).val
     refine aM (us':=[vi x4,vi 0,(vS d11 x8)]) 6 s38 rfl rfl rfl rfl rfl rfl rfl fun H31 s39=>ae (aF (bm (az h89 rfl (aa (v:=vi (Pu.W ((i7:Int)+1))) rfl (ae ?_)))))
     exact k4 _ _ _ (sJ e3) ⟨(iv rfl (bq q18 (h58).bd)),_,_,_,_,(g7.trans (g9.trans (g10.trans (g11.trans g12)))),(s39.pick [1,2,4,5,6,7] rfl),h79,h80,h81,h82,h83,h84,h87,h88,(h78.mono (g11.trans g12).z)⟩
    ·obtain⟨hte1,Z13,V13,w17,w18,g13,s40,h93,h94,h95,h96,h97,h98,h99,h100,h92⟩:=jd
     refine af (an hte1 h100 (ae (ah (aX rfl (Int.lt_irrefl _) (aP (aV (aV (bQ ?_))))))))
     exact k7 _ _ ⟨_,jf,_,_,_,_,g13,s40,h93,h94,h95,h96,h97,h98,h99,h100,h92⟩
   intro _ H22 i10
   obtain⟨s25,f1,Z8,V8,w11,w12,g8,s26,h69,h70,h71,h72,h73,h74,h75,h76,h68⟩:=i10
   replace e:=bw f1 e
   refine af ?_
   obtain⟨d12,rfl⟩:=((s26.curS (s:=Sh.ro Sh.G3) 5 rfl)).val
   refine ak 4 s26 rfl h74 rfl rfl (aM (us':=[vi x4,vi 0,(vS d12 s25.2.2)]) 3 s26 rfl h73 rfl rfl rfl rfl rfl fun H33 s41=>aa (v:=.bool true) rfl (ae (aL ?_)))
   obtain⟨d13,rfl⟩:=(h68).val
   obtain rfl:=oJ e
   exact⟨.inr rfl,_,(ra2 (rac 3 s41 rfl h73 rfl rfl) (rat rfl)),_,_,rfl,(((s41.push (cP (cA h68))).pick [1,0,2,6] rfl).weak (g1.trans (g4.trans (g5.trans (g6.trans g8)))) hs.zv)⟩
theorem X.D2 {T:FuncId→Option AFunc}(nd:Nd.D2 T){φ:Nat}{Z V:PH}{H:Hp}{v1:Value}{v2:Value}{o1:Nat}{o2:Nat}{a0:Ty.E5}{a1:Ty.F1}{a2:Ty.J5}{a3:Int}{a4:Int}(hs:Sat Z V H [pts o1 (.rw 0 [v2]),pts o2 (.rw 0 [vi a3])])(hp1:RdS Sh.D8 Z v1 a0.Rules)(hp2:RdS Sh.int Z v2 a2.l){r:(Ty.J5×Int×Ty.G3×Bool)}(e:P.D2 φ a0 a1 a2 a3 a4=some r):
 G T I.D2 [(.agg #[vi a0.Terms,vi a0.Nons,vi a0.Start,v1]),(.agg #[(.bool a1.Term),vi a1.N]),(pV o1 0),(pV o2 0),vi a4] H (fun rv H'=>∃(u1:Value) (u2:Value),rv=(.tuple #[(.agg #[vi r.2.2.1.Rule,vi r.2.2.1.Term,u2]),(.bool r.2.2.2)])∧Sat Z V H' [pts o1 (.rw 0 [u1]),Sh.it (Sh.ro sI1) [u1] r.1.l,pts o2 (.rw 0 [vi r.2.1]),It.sl (Sh.ro Sh.G3) u2 r.2.2.1.Kids]):=(X.parlmake_tree_rec nd φ) hs hp1 hp2 e
structure Nd.K3 (T:FuncId→Option AFunc):Prop where
 own:Has T I.K3 F.K3
 D2:Nd.D2 T
theorem X.K3 {T:FuncId→Option AFunc}(nd:Nd.K3 T){φ:Nat}{Z V:PH}{H:Hp}{v1:Value}{v2:Value}{a0:Ty.E5}{a1:(List Int)}(hs:Sat Z V H [])(hp1:RdS Sh.D8 Z v1 a0.Rules)(hp2:RdS Sh.int Z v2 a1){r:(Ty.G3×Bool)}(e:P.K3 φ a0 a1=some r):
 G T I.K3 [(.agg #[vi a0.Terms,vi a0.Nons,vi a0.Start,v1]),v2] H (fun rv H'=>∃(u1:Value),rv=(.tuple #[(.agg #[vi r.1.Rule,vi r.1.Term,u1]),(.bool r.2)])∧Sat Z V H' [It.sl (Sh.ro Sh.G3) u1 r.1.Kids]):=by
 unfold P.K3 at e
 refine bu nd.own (af ?_)
 obtain⟨d1,rfl⟩:=(hp1).val
 refine ce hs rfl rfl fun b1 H1 s1=>bh s1 fun b2 H2 s2=>aa (v:=.bool false) rfl (ae (af (bh s2 fun b3 H3 s3=>aM (us':=[vi 60]) 0 s3 rfl rfl rfl rfl rfl rfl rfl fun H4 s4=>ae (af (ak 2 s4 rfl rfl rfl rfl (am rfl (ak 2 s4 rfl rfl rfl rfl (bV (qs:=[(1,1,(vi a0.Start))]) rfl rfl (aa (v:=v2) rfl ?_)))))))))
 obtain⟨d2,rfl⟩:=(hp2).val
 refine bV (qs:=[(0,1,(vS d2 a1))]) rfl rfl (ce s4 rfl rfl fun b4 H5 s5=>?_)
 obtain⟨x1,q1,e⟩:=oB e
 obtain⟨Z1,V1,W1,g1,u1,c1,c2,-,c4,c3⟩:=Sat.call (l1:=[pts b4 (.rw 0 [(vS d2 a1)]),pts b3 (.rw 0 [vi 60])]) (l2:=[pts b2 (.rw 0 [vi 0,vi 0,(.slice none 0 0)]),pts b1 (.rw 0 [vi a0.Terms,vi a0.Nons,vi a0.Start,(vS d1 a0.Rules)])]) s5
 refine ao (mc rfl (mc rfl (mc rfl (mc rfl (mc rfl m0))))) (X.D2 nd.D2 (a1:=Ty.F1.mk false a0.Start) (a2:=Ty.J5.mk a1) (a3:=60) c1 (hp1.mono g1.z) (hp2.mono g1.z) q1) fun _ H6 i1=>?_
 obtain⟨w1,w2,rfl,s6⟩:=i1
 have s7:=c3 _ _ s6
 obtain⟨Z2,V2,g2,s8,h1⟩:=(s7.pull 1 rfl).frzR
 refine bz rfl rfl (bz rfl rfl ?_)
 obtain⟨d3,rfl⟩:=((s8.curS (s:=Sh.ro Sh.G3) 2 rfl)).val
 refine aM (us':=[vi x1.2.2.1.Rule,vi x1.2.2.1.Term,(vS d3 x1.2.2.1.Kids)]) 3 s8 rfl rfl rfl rfl rfl rfl rfl fun H7 s9=>aa (v:=.bool x1.2.2.2) rfl (ae (aq (P:=fun tm=>tm 4=(pV b2 0)∧tm 5=(.bool x1.2.2.2)∧True) ⟨rfl,rfl,trivial⟩ ?_))
 intro _ i2
 obtain⟨h2,h3,-⟩:=i2
 refine aL ?_
 obtain rfl:=oJ e
 exact⟨.inr rfl,_,(ra2 (rac 3 s9 rfl h2 rfl rfl) (rat h3)),_,rfl,((s9.pick [2] rfl).weak (g1.trans g2) hs.zv)⟩
structure Nd.J1 (T:FuncId→Option AFunc):Prop where
 own:Has T I.J1 F.J1
 E3:Nd.E3 T
theorem X.J1 (nd:Nd.J1 T){v1:Value}{v2:Value}{v3:Value}{a0:Ty.K5}{a1:(List Int)}(hs:Sat Z V H [])(hp1:RdS Sh.int V v1 a0.Accept)(hp2:RdS sI1 V v2 a0.Next)(hp3:RdS Sh.int V v3 a1){r:(Int×Int)}(e:P.J1 a0 a1=some r):
 G T I.J1 [(.agg #[vi a0.Start,v1,v2]),v3] H (fun rv H'=>rv=(.tuple #[vi r.1,vi r.2])∧Sat Z V H' []):=by
 unfold P.J1 at e
 refine bu nd.own (af ?_)
 obtain⟨d1,rfl⟩:=(hp1).val
 obtain⟨d2,rfl⟩:=(hp2).val
 refine ce hs rfl rfl fun b1 H1 s1=>aa (v:=vi 0) rfl (aa (v:=vi 0) rfl (ae (ah (af (ak 0 s1 rfl rfl rfl rfl ?_)))))
 obtain⟨x1,q1,e⟩:=oB e
 obtain⟨Z1,V1,W1,g1,u1,c1,c2,-,c4,c3⟩:=Sat.call (l1:=[]) s1
 refine ao (mc rfl m0) (X.E3 nd.E3 c1 (hp1.mono (g1.v.trans u1)) (hp2.mono (g1.v.trans u1)) q1) fun _ H2 i1=>?_
 obtain⟨rfl,s2⟩:=i1
 have s3:=c3 _ _ s2
 refine aa (v:=vi x1) rfl (ae (af (aa (v:=vi x1) rfl (dc rfl rfl (ae (aK rfl (fun q2=>?_) (fun q2=>?_)))))))
 ·replace e:=ay q2 e
  refine af (aa (v:=vi x1) rfl (aa (v:=vi 0) rfl (aa (v:=vi x1) rfl (ae (aq (P:=fun tm=>tm 4=vi 0∧tm 5=vi x1∧True) ⟨rfl,rfl,trivial⟩ ?_)))))
  intro _ i2
  obtain⟨h1,h2,-⟩:=i2
  refine aL ?_
  obtain rfl:=oJ e
  exact⟨.inr rfl,_,(ar2 h1 h2),rfl,((s3.pick [] rfl).weak g1 hs.zv)⟩
 replace e:=be q2 e
 refine ar (ah (af (aa (v:=v3) rfl (aB rfl ((hp3.mono g1.v)).len (cH rfl rfl (ae (aq (P:=fun tm=>tm 1=v3∧tm 2=(pV b1 0)∧tm 19=(.bool (decide (4000<(a1.length:Int))))∧True) ⟨rfl,rfl,rfl,trivial⟩ ?_)))))))
 intro _ i3
 obtain⟨h3,h4,h5,-⟩:=i3
 refine aK h5 (fun q3=>?_) (fun q3=>?_)
 ·replace e:=ay q3 e
  refine af (aa (v:=vi 0) rfl (aa (v:=vi 2) rfl (ae (aL ?_))))
  obtain rfl:=oJ e
  exact⟨.inr rfl,_,(ar2 rfl rfl),rfl,((s3.pick [] rfl).weak g1 hs.zv)⟩
 replace e:=be q3 e
 refine ar (ah (af (aa h3 (aB rfl ((hp3.mono g1.v)).len (aa (v:=vi 0) rfl (ae ?_))))))
 obtain⟨y1,q6,e⟩:=oB e
 refine aZ (I:=fun tm H=>∃(s6:Unit),y1= .out s6∧(∃(Z3 V3:PH),Gw Z1 V1 Z3 V3∧Sat Z3 V3 H [pts b1 (.rw 0 [vi a0.Start,(vS d1 a0.Accept),(vS d2 a0.Next)])]∧tm 1=v3∧tm 2=(pV b1 0)∧tm 20=v3∧tm 21=(vN a1))) (fun k4=>?_) ?_
 ·refine ax (cB (xs:=a1) (fun(i4:Nat) (s4:Unit) tm H=>tm 22=vi i4∧∃(Z2 V2:PH),Gw Z1 V1 Z2 V2∧Sat Z2 V2 H [pts b1 (.rw 0 [vi a0.Start,(vS d1 a0.Accept),(vS d2 a0.Next)])]∧tm 1=v3∧tm 2=(pV b1 0)∧tm 20=v3∧tm 21=(vN a1)) (fun i4 x2 s4 y2 tm H4 q4 q5 j1 e1 k1 k2 k3=>?_) (fun s4 tm H3 jf jd=>?_) q6 ⟨rfl,_,_,Gw.refl _ _,s3,h3,h4,rfl,rfl⟩)
  ·obtain⟨hti0,Z2,V2,g2,s5,h6,h7,h8,h9⟩:=j1
   unfold P.J1.b0 at e1
   refine af (an hti0 h9 (ae (ah (aW rfl (Int.ofNat_lt.2 q5) (ar (ah (ax (af (aG (v:=v3) h8 hti0 (hp3.mono (g1.trans g2).v) rfl (Pu.ix_nat.trans q4) fun p1 q7=>cf rfl (hp3.mono (g1.trans g2).v) s5.v q7 (Pu.ix_nat.trans q4) (aa (v:=vi x2) rfl (ae (af (aa (v:=vi x2) rfl (an rfl rfl (aa (v:=.bool (decide (x2<0))) rfl ?_)))))))))))))))
   obtain⟨y3,e2,e1⟩:=oB e1
   refine cq 8 (I:=fun tm H=>∃(Z4 V4:PH),Gw Z2 V2 Z4 V4∧Sat Z4 V4 H [pts b1 (.rw 0 [vi a0.Start,(vS d1 a0.Accept),(vS d2 a0.Next)])]∧tm 1=v3∧tm 2=(pV b1 0)∧tm 20=v3∧tm 21=(vN a1)∧tm 22=(vJ i4)∧tm 36=(.bool y3)) (fun k5=>?_) ?_
   ·rcases Bool.eq_false_or_eq_true (decide (x2<0)) with q8|q8
    ·replace e2:=ay q8 e2
     refine aD rfl q8 (aD rfl q8 (aD rfl q8 (aD rfl q8 (aD rfl q8 (aD rfl q8 (aD rfl q8 (aT (a:=.bool true) rfl q8 rfl ?_)))))))
     obtain rfl:=oJ e2
     exact k5 _ _ ⟨_,_,Gw.refl _ _,s5,h6,h7,h8,h9,hti0,rfl⟩
    replace e2:=aR q8 e2
    refine aA rfl q8 (aa (v:=vi x2) rfl (aA rfl q8 (am h7 (aA rfl q8 (ak 0 s5 rfl rfl rfl rfl (aA rfl q8 ?_))))))
    obtain⟨x3,q9,e2⟩:=oB e2
    refine aG (v:=vS d2 a0.Next) rfl rfl (hp2.mono (g1.trans g2).v) rfl q9 fun p2 q10=>aA rfl q8 (dE rfl (hp2.mono (g1.trans g2).v) s5.v q10 q9 fun w1 h20=>aA rfl q8 (aB rfl (h20).len (aA rfl q8 (ci rfl rfl (aU (b:=.bool (decide ((x3.length:Int)≤x2))) rfl q8 rfl ?_)))))
    obtain rfl:=oJ e2
    exact k5 _ _ ⟨_,_,Gw.refl _ _,s5,h6,h7,h8,h9,hti0,rfl⟩
   intro _ H6 i5
   obtain⟨Z4,V4,g4,s8,h14,h15,h16,h17,h18,h19⟩:=i5
   refine ae (bt h19 (fun q11=>?_) (fun q11=>?_))
   ·replace e1:=ay q11 e1
    refine af (aa (v:=vi 0) rfl (aa (v:=vi 1) rfl (ae (aL ?_))))
    have e3:=bZ (k3 _ (sJ e1)) e
    obtain rfl:=oJ e3
    exact⟨.inr rfl,_,(ar2 rfl rfl),rfl,((s8.pick [] rfl).weak (g1.trans (g2.trans g4)) hs.zv)⟩
   replace e1:=aR q11 e1
   refine ar (aF (bm (az h18 rfl (aa (v:=vi (Pu.W ((i4:Int)+1))) rfl (ae ?_)))))
   exact k1 _ _ _ (sJ e1) ⟨(iv rfl (bq q5 ((hp3.mono g1.v)).bd)),_,_,(g2.trans g4),s8,h14,h15,h16,h17⟩
  ·obtain⟨hte0,Z5,V5,g5,s9,h21,h22,h23,h24⟩:=jd
   refine af (an hte0 h24 (ae (ah (aX rfl (Int.lt_irrefl _) (aP (aV (aV (bQ ?_))))))))
   exact k4 _ _ ⟨_,jf,_,_,g5,s9,h21,h22,h23,h24⟩
 intro _ H5 i6
 obtain⟨s6,f1,Z3,V3,g3,s7,h10,h11,h12,h13⟩:=i6
 replace e:=bw f1 e
 refine af (am h11 (ak 0 s7 rfl rfl rfl rfl (aa (v:=vi a0.Start) rfl (ae (ah (af (aa h10 (aB rfl ((hp3.mono (g1.trans g3).v)).len (aa (v:=vi 0) rfl (ae ?_))))))))))
 obtain⟨y4,q14,e⟩:=oB e
 refine aZ (I:=fun tm H=>∃(s12:Int),y4= .out s12∧(∃(Z7 V7:PH),Gw Z3 V3 Z7 V7∧Sat Z7 V7 H [pts b1 (.rw 0 [vi a0.Start,(vS d1 a0.Accept),(vS d2 a0.Next)])]∧tm 2=(pV b1 0)∧tm 9=vi s12∧tm 40=v3∧tm 41=(vN a1))) (fun k9=>?_) ?_
 ·refine ax (cB (xs:=a1) (fun(i7:Nat) (s10:Int) tm H=>tm 42=vi i7∧∃(Z6 V6:PH),Gw Z3 V3 Z6 V6∧Sat Z6 V6 H [pts b1 (.rw 0 [vi a0.Start,(vS d1 a0.Accept),(vS d2 a0.Next)])]∧tm 2=(pV b1 0)∧tm 9=vi s10∧tm 40=v3∧tm 41=(vN a1)) (fun i7 x4 s10 y5 tm H9 q12 q13 j2 e4 k6 k7 k8=>?_) (fun s10 tm H8 jf jd=>?_) q14 ⟨rfl,_,_,Gw.refl _ _,s7,h11,rfl,rfl,rfl⟩)
  ·obtain⟨hti1,Z6,V6,g6,s11,h25,h26,h27,h28⟩:=j2
   unfold P.J1.b1 at e4
   refine af (an hti1 h28 (ae (ah (aW rfl (Int.ofNat_lt.2 q13) (ar (ah (ax (af (aG (v:=v3) h27 hti1 (hp3.mono (g1.trans (g3.trans g6)).v) rfl (Pu.ix_nat.trans q12) fun p3 q15=>cf rfl (hp3.mono (g1.trans (g3.trans g6)).v) s11.v q15 (Pu.ix_nat.trans q12) (aa (v:=vi x4) rfl (ae (af (am h25 (ak 0 s11 rfl rfl rfl rfl (aa h26 ?_)))))))))))))))
   obtain⟨x5,q16,e4⟩:=oB e4
   refine aG (v:=vS d2 a0.Next) rfl rfl (hp2.mono (g1.trans (g3.trans g6)).v) rfl q16 fun p4 q17=>dE rfl (hp2.mono (g1.trans (g3.trans g6)).v) s11.v q17 q16 fun w2 h33=>aa (v:=vi x4) rfl ?_
   obtain⟨x6,q18,e4⟩:=oB e4
   refine aG (v:=w2) rfl rfl h33 rfl q18 fun p5 q19=>cf rfl h33 s11.v q19 q18 (aa (v:=vi x6) rfl (ae (aq (P:=fun tm=>tm 2=(pV b1 0)∧tm 9=vi x6∧tm 40=v3∧tm 41=(vN a1)∧tm 42=(vJ i7)∧True) ⟨h25,rfl,h27,h28,hti1,trivial⟩ ?_)))
   intro _ i8
   obtain⟨h34,h35,h36,h37,h38,-⟩:=i8
   refine af (aa h35 (an rfl rfl (ae (aK rfl (fun q20=>?_) (fun q20=>?_)))))
   ·replace e4:=ay q20 e4
    refine af (aa (v:=vi (-1)) rfl (aa (v:=vi 0) rfl (ae (aL ?_))))
    have e5:=bZ (k8 _ (sJ e4)) e
    obtain rfl:=oJ e5
    exact⟨.inr rfl,_,(ar2 rfl rfl),rfl,((s11.pick [] rfl).weak (g1.trans (g3.trans g6)) hs.zv)⟩
   replace e4:=be q20 e4
   refine ar (aF (bm (az h38 rfl (aa (v:=vi (Pu.W ((i7:Int)+1))) rfl (ae ?_)))))
   exact k6 _ _ _ (sJ e4) ⟨(iv rfl (bq q13 ((hp3.mono (g1.trans g3).v)).bd)),_,_,g6,s11,h34,h35,h36,h37⟩
  ·obtain⟨hte1,Z8,V8,g8,s14,h39,h40,h41,h42⟩:=jd
   refine af (an hte1 h42 (ae (ah (aX rfl (Int.lt_irrefl _) (aP (aV (aV (bQ ?_))))))))
   exact k9 _ _ ⟨_,jf,_,_,g8,s14,h39,h40,h41,h42⟩
 intro _ H10 i9
 obtain⟨s12,f2,Z7,V7,g7,s13,h29,h30,h31,h32⟩:=i9
 replace e:=bw f2 e
 refine af (am h29 (ak 0 s13 rfl rfl rfl rfl (aa h30 ?_)))
 obtain⟨x7,q21,e⟩:=oB e
 refine aG (v:=vS d1 a0.Accept) rfl rfl (hp1.mono (g1.trans (g3.trans g7)).v) rfl q21 fun p6 q22=>cf rfl (hp1.mono (g1.trans (g3.trans g7)).v) s13.v q22 q21 (aa (v:=vi x7) rfl (aa (v:=vi 0) rfl (ae (aL ?_))))
 obtain rfl:=oJ e
 exact⟨.inr rfl,_,(ar2 rfl rfl),rfl,((s13.pick [] rfl).weak (g1.trans (g3.trans g7)) hs.zv)⟩
structure Nd.J3 (T:FuncId→Option AFunc):Prop where
 own:Has T I.J3 F.J3
 J1:Nd.J1 T
theorem X.J3 (nd:Nd.J3 T){v1:Value}{v2:Value}{v3:Value}{a0:Ty.K5}{a1:(List Int)}(hs:Sat Z V H [])(hp1:RdS Sh.int V v1 a0.Accept)(hp2:RdS sI1 V v2 a0.Next)(hp3:RdS Sh.int V v3 a1){r:Bool}(e:P.J3 a0 a1=some r):
 G T I.J3 [(.agg #[vi a0.Start,v1,v2]),v3] H (fun rv H'=>rv=(.bool r)∧Sat Z V H' []):=by
 unfold P.J3 at e
 refine bu nd.own (af ?_)
 obtain⟨d1,rfl⟩:=(hp1).val
 obtain⟨d2,rfl⟩:=(hp2).val
 refine ce hs rfl rfl fun b1 H1 s1=>aa (v:=.bool false) rfl (ae (af (ak 0 s1 rfl rfl rfl rfl (aa (v:=v3) rfl ?_))))
 obtain⟨x1,q1,e⟩:=oB e
 obtain⟨Z1,V1,W1,g1,u1,c1,c2,-,c4,c3⟩:=Sat.call (l1:=[]) s1
 refine ao (mc rfl (mc rfl m0)) (X.J1 nd.J1 c1 (hp1.mono (g1.v.trans u1)) (hp2.mono (g1.v.trans u1)) (hp3.mono (g1.v.trans u1)) q1) fun _ H2 i1=>?_
 obtain⟨rfl,s2⟩:=i1
 have s3:=c3 _ _ s2
 refine aa (v:=.tuple #[vi x1.1,vi x1.2]) rfl (bz rfl rfl (bz rfl rfl (aa (v:=vi x1.1) rfl (aa (v:=vi x1.2) rfl (ae (aq (P:=fun tm=>tm 5=vi x1.1∧tm 6=vi x1.2∧True) ⟨rfl,rfl,trivial⟩ ?_))))))
 intro _ i2
 obtain⟨h1,h2,-⟩:=i2
 refine af (aa h2 (bY rfl rfl (aa (v:=.bool (decide (x1.2=0))) rfl (cq 3 (I:=fun tm H=>tm 18= .bool ((decide (x1.2=0))&&(decide (0≤x1.1)))∧(∃(Z2 V2:PH),Gw Z1 V1 Z2 V2∧Sat Z2 V2 H [])) (fun k1=>?_) ?_))))
 ·rcases Bool.eq_false_or_eq_true (decide (x1.2=0)) with q2|q2
  ·refine aA rfl q2 (aa h1 (aA rfl q2 (ci rfl rfl (aT (a:=.bool (decide (0≤x1.1))) rfl q2 rfl ?_))))
   exact k1 _ _ ⟨gf rfl (by first|(rw [q2];first|done|rfl)|simp [q2]),_,_,Gw.refl _ _,(s3.pick [] rfl)⟩
  refine aD rfl q2 (aD rfl q2 (aU (b:=.bool false) rfl q2 rfl ?_))
  exact k1 _ _ ⟨gf rfl (by first|(rw [q2];first|done|rfl)|simp [q2]),_,_,Gw.refl _ _,(s3.pick [] rfl)⟩
 intro _ H3 i3
 obtain⟨h3,Z2,V2,g2,s4⟩:=i3
 refine aa h3 (ae (aL ?_))
 obtain rfl:=oJ e
 exact⟨.inr rfl,_,(ar1 rfl),rfl,(s4.weak (g1.trans g2) hs.zv)⟩
structure Nd.K7 (T:FuncId→Option AFunc):Prop where
 own:Has T I.K7 F.K7
theorem X.K7 (nd:Nd.K7 T){v1:Value}{a0:Ty.G3}(hs:Sat Z V H [])(hp1:RdS Sh.G3 V v1 a0.Kids){r:Bool}(e:P.K7 a0=some r):
 G T I.K7 [(.agg #[vi a0.Rule,vi a0.Term,v1])] H (fun rv H'=>rv=(.bool r)∧Sat Z V H' []):=by
 unfold P.K7 at e
 refine bu nd.own (af ?_)
 obtain⟨d1,rfl⟩:=(hp1).val
 refine ce hs rfl rfl fun b1 H1 s1=>aa (v:=.bool false) rfl (ae (af (am rfl (ak 0 s1 rfl rfl rfl rfl (bY rfl rfl (aa (v:=.bool (decide (a0.Rule=(-1)))) rfl (ae (aL ?_))))))))
 obtain rfl:=oJ e
 exact⟨.inr rfl,_,(ar1 rfl),rfl,(s1.pick [] rfl)⟩
structure Nd.J2 (T:FuncId→Option AFunc):Prop where
 own_tree_word:Has T I.J2 F.J2
 K7:Nd.K7 T
theorem X.tree_word_rec {T:FuncId→Option AFunc}(nd:Nd.J2 T):∀φ:Nat,(∀{Z V:PH} {H:Hp} {v1:Value} {v2:Value} {a0:(List Int)} {a1:Ty.G3} (_:Sat Z V H [It.sl Sh.int v1 a0]) (_:RdS Sh.G3 V v2 a1.Kids) {r:(List Int)} (_:P.J2 φ a0 a1=some r),G T I.J2 [v1,(.agg #[vi a1.Rule,vi a1.Term,v2])] H (fun rv H'=>∃(u1:Value),rv=u1∧Sat Z V H' [It.sl Sh.int u1 r])):=by
 intro φ
 induction φ with
 | zero=>
   intro Z V H v1 v2 a0 a1 hs hp2 r e
   rw [P.J2] at e;cases e
 | succ φ ih=>
   intro Z V H v1 v2 a0 a1 hs hp2 r e
   rw [P.J2] at e
   refine bu nd.own_tree_word (af ?_)
   obtain⟨d1,rfl⟩:=(hp2).val
   refine ce hs rfl rfl fun b1 H1 s1=>aa (v:=.slice none 0 0) rfl (ae (ah (af (ak 0 s1 rfl rfl rfl rfl ?_))))
   obtain⟨x1,q1,e⟩:=oB e
   obtain⟨Z1,V1,W1,g1,u1,c1,c2,-,c4,c3⟩:=Sat.call (l1:=[]) s1
   refine ao (mc rfl m0) (X.K7 nd.K7 c1 (hp2.mono (g1.v.trans u1)) q1) fun _ H2 i1=>?_
   obtain⟨rfl,s2⟩:=i1
   have s3:=c3 _ _ s2
   refine ae (bt rfl (fun q2=>?_) (fun q2=>?_))
   ·replace e:=ay q2 e
    refine af (aa (v:=v1) rfl (am rfl (ak 0 s3 rfl rfl rfl rfl (bP (s:=Sh.int) (us:=[vi a1.Term]) (qs:=[(0,1,(vi a1.Term))]) (xs:=[a1.Term]) s3 Sh.G6 rfl rfl rfl (Els.cons (c:=[vi a1.Term]) rfl Els.nil) rfl rfl fun w1 H3 s4=>?_))))
    obtain⟨x2,q3,e⟩:=oB e
    refine cp 2 s4 rfl Sh.G6 rfl rfl rfl rfl (s4.curS (s:=Sh.int) 0 rfl) pR (fun h=>h) (by decide) q3 fun w2 H4 s5=>aa (v:=w2) rfl (ae (aq (P:=fun tm=>tm 4=w2∧True) ⟨rfl,trivial⟩ ?_))
    intro _ i2
    obtain⟨h1,-⟩:=i2
    refine aL ?_
    obtain rfl:=oJ e
    exact⟨.inr rfl,_,(ar1 h1),_,rfl,((s5.pick [2] rfl).weak g1 hs.zv)⟩
   replace e:=aR q2 e
   refine ar (ah (af (am rfl (ak 0 s3 rfl rfl rfl rfl (aB rfl ((hp2.mono g1.v)).len (aa (v:=vi 0) rfl (ae ?_)))))))
   obtain⟨y1,q6,e⟩:=oB e
   refine ax (aY (xs:=a1.Kids) (fun(i3:Nat) (s6:(List Int)) tm H=>tm 17=vi i3∧∃(Z2 V2:PH) (w3:Value),Gw Z1 V1 Z2 V2∧Sat Z2 V2 H [It.sl Sh.int w3 s6]∧tm 0=w3∧tm 15=(vS d1 a1.Kids)∧tm 16=(vN a1.Kids)) (fun i3 x3 s6 s8 tm H6 q4 q5 j1 e1 k1=>?_) (fun tm H5 jd=>?_) q6 ⟨rfl,_,_,_,Gw.refl _ _,(s3.pick [1] rfl),rfl,rfl,rfl⟩)
   ·obtain⟨hti0,Z2,V2,w3,g2,s7,h2,h3,h4⟩:=j1
    unfold P.J2.b0 at e1
    refine af (an hti0 h4 (ae (ah (aW rfl (Int.ofNat_lt.2 q5) (ar (ah (ax (af (aG (v:=vS d1 a1.Kids) h3 hti0 (hp2.mono (g1.trans g2).v) rfl (Pu.ix_nat.trans q4) fun p1 q7=>cy rfl (hp2.mono (g1.trans g2).v) s7.v rfl q7 (Pu.ix_nat.trans q4) fun c5 h5=>?_)))))))))
    obtain⟨w4,rfl,h6⟩:=Sh.api_Tree_op h5
    refine bh s7 fun b2 H7 s9=>?_
    obtain⟨d2,rfl⟩:=(h6).val
    refine aM (us':=[vi x3.Rule,vi x3.Term,(vS d2 x3.Kids)]) 0 s9 rfl rfl rfl rfl rfl rfl rfl fun H8 s10=>ae (bm (aa h2 (ak 0 s10 rfl rfl rfl rfl ?_)))
    obtain⟨x4,q8,e1⟩:=oB e1
    obtain⟨Z3,V3,W2,g3,u2,c6,c7,-,c9,c8⟩:=Sat.call (l1:=[It.sl Sh.int w3 s6]) (l2:=[pts b2 (.rw 0 [vi x3.Rule,vi x3.Term,(vS d2 x3.Kids)])]) (s10.pick [1,0] rfl)
    refine ao (mc rfl (mc rfl m0)) (ih c6 (h6.mono (g3.v.trans u2)) q8) fun w5 H9 i4=>?_
    obtain⟨_,rfl,s11⟩:=i4
    have s12:=c8 _ _ s11
    refine aa (v:=w5) rfl (ae (aF (bm (az hti0 rfl (aa (v:=vi (Pu.W ((i3:Int)+1))) rfl (ae ?_))))))
    obtain rfl:=oJ e1
    exact k1 _ _ ⟨(iv rfl (bq q5 ((hp2.mono g1.v)).bd)),_,_,_,(g2.trans g3),(s12.pick [0] rfl),rfl,h3,h4⟩
   obtain⟨hte0,Z4,V4,w6,g4,s13,h7,h8,h9⟩:=jd
   refine af (an hte0 h9 (ae (ah (aX rfl (Int.lt_irrefl _) (aP (aV (aV (bQ (af (aa h7 (aa (v:=w6) rfl (ae (aL ?_)))))))))))))
   obtain rfl:=oJ e
   exact⟨.inr rfl,_,(ar1 rfl),_,rfl,(s13.weak (g1.trans g4) hs.zv)⟩
theorem X.J2 {T:FuncId→Option AFunc}(nd:Nd.J2 T){φ:Nat}{Z V:PH}{H:Hp}{v1:Value}{v2:Value}{a0:(List Int)}{a1:Ty.G3}(hs:Sat Z V H [It.sl Sh.int v1 a0])(hp2:RdS Sh.G3 V v2 a1.Kids){r:(List Int)}(e:P.J2 φ a0 a1=some r):
 G T I.J2 [v1,(.agg #[vi a1.Rule,vi a1.Term,v2])] H (fun rv H'=>∃(u1:Value),rv=u1∧Sat Z V H' [It.sl Sh.int u1 r]):=(X.tree_word_rec nd φ) hs hp2 e
structure Nd.K6 (T:FuncId→Option AFunc):Prop where
 own:Has T I.K6 F.K6
 J2:Nd.J2 T
theorem X.K6 {T:FuncId→Option AFunc}(nd:Nd.K6 T){φ:Nat}{Z V:PH}{H:Hp}{v1:Value}{a0:Ty.G3}(hs:Sat Z V H [])(hp1:RdS Sh.G3 V v1 a0.Kids){r:(List Int)}(e:P.K6 φ a0=some r):
 G T I.K6 [(.agg #[vi a0.Rule,vi a0.Term,v1])] H (fun rv H'=>∃(u1:Value),rv=u1∧Sat Z V H' [It.sl Sh.int u1 r]):=by
 unfold P.K6 at e
 refine bu nd.own (af ?_)
 obtain⟨d1,rfl⟩:=(hp1).val
 refine ce hs rfl rfl fun b1 H1 s1=>aa (v:=.slice none 0 0) rfl (ae (af (ak 0 s1 rfl rfl rfl rfl ?_)))
 obtain⟨x1,q1,e⟩:=oB e
 have s2:=s1.push (ba (s:=Sh.int))
 obtain⟨Z1,V1,W1,g1,u1,c1,c2,-,c4,c3⟩:=Sat.call (l1:=[It.sl Sh.int (.slice none 0 0) []]) (l2:=[pts b1 (.rw 0 [vi a0.Rule,vi a0.Term,(vS d1 a0.Kids)])]) s2
 refine ao (mc rfl (mc rfl m0)) (X.J2 nd.J2 c1 (hp1.mono (g1.v.trans u1)) q1) fun w1 H2 i1=>?_
 obtain⟨_,rfl,s3⟩:=i1
 have s4:=c3 _ _ s3
 refine aa (v:=w1) rfl (ae (aL ?_))
 obtain rfl:=oJ e
 exact⟨.inr rfl,_,(ar1 rfl),_,rfl,((s4.pick [0] rfl).weak g1 hs.zv)⟩
structure Nd.F5 (T:FuncId→Option AFunc):Prop where
 own:Has T I.F5 F.F5
 D4:Nd.D4 T
 K0:Nd.K0 T
 E2:Nd.E2 T
 K3:Nd.K3 T
 K6:Nd.K6 T
 J3:Nd.J3 T
theorem X.F5 {T:FuncId→Option AFunc}(nd:Nd.F5 T){φ:Nat}{Z V:PH}{H:Hp}{v1:Value}{v2:Value}{a0:(List Int)}{a1:(List Int)}(hs:Sat Z V H [])(hp1:RdS Sh.int Z v1 a0)(hp2:RdS Sh.int Z v2 a1){r:Bool}(e:P.F5 φ a0 a1=some r):
 G T I.F5 [v1,v2] H (fun rv H'=>rv=(.bool r)∧Sat Z V H' []):=by
 unfold P.F5 at e
 refine bu nd.own (af (aa (v:=.bool false) rfl (ae (af (aa (v:=v1) rfl ?_)))))
 obtain⟨x1,q1,e⟩:=oB e
 obtain⟨Z1,V1,W1,g1,u1,c1,c2,-,c4,c3⟩:=Sat.call (l1:=[]) hs
 refine ao (mc rfl m0) (X.D4 nd.D4 c1 (hp1.mono g1.z) q1) fun _ H1 i1=>?_
 obtain⟨w1,rfl,s1⟩:=i1
 have s2:=c3 _ _ s1
 refine bh s2 fun b1 H2 s3=>?_
 obtain⟨d1,rfl⟩:=((s3.curS (s:=Sh.ro Sh.D8) 1 rfl)).val
 refine aM (us':=[vi x1.Terms,vi x1.Nons,vi x1.Start,(vS d1 x1.Rules)]) 0 s3 rfl rfl rfl rfl rfl rfl rfl fun H3 s4=>ae (ah (af ?_))
 obtain⟨x2,q2,e⟩:=oB e
 obtain⟨Z2,V2,W2,g2,u2,c5,c6,-,c8,c7⟩:=Sat.call (l1:=[]) s4
 refine ao m0 (X.K0 nd.K0 c5 q2) fun _ H4 i2=>?_
 obtain⟨w2,rfl,s5⟩:=i2
 have s6:=c7 _ _ s5
 obtain⟨Z3,V3,g3,s7,h1⟩:=s6.frzS 0 rfl
 replace h1:=h1.of_ro
 obtain⟨x3,q3,e⟩:=oB e
 obtain⟨Z4,V4,W3,g4,u3,c9,c10,-,c12,c11⟩:=Sat.call (l1:=[]) s7
 refine ao (mc rfl m0) (X.E2 nd.E2 c9 (h1.mono g4.z) q3) fun _ H5 i3=>?_
 obtain⟨w3,w4,rfl,s8⟩:=i3
 have s9:=c11 _ _ s8
 refine aa (v:=.tuple #[(.agg #[vi x3.1.Start,w3,w4]),(.bool x3.2.1),vi x3.2.2]) rfl (bz rfl rfl (bz rfl rfl (bz rfl rfl (bh s9 fun b2 H6 s10=>?_))))
 obtain⟨d2,rfl⟩:=((s10.curS (s:=Sh.int) 1 rfl)).val
 obtain⟨d3,rfl⟩:=((s10.curS (s:=sI1) 2 rfl)).val
 refine aM (us':=[vi x3.1.Start,(vS d2 x3.1.Accept),(vS d3 x3.1.Next)]) 0 s10 rfl rfl rfl rfl rfl rfl rfl fun H7 s11=>aa (v:=.bool x3.2.1) rfl (aa (v:=vi x3.2.2) rfl (ae (aq (P:=fun tm=>tm 1=v2∧tm 5=(pV b1 0)∧tm 6=(pV b2 0)∧tm 7=(.bool x3.2.1)∧tm 8=vi x3.2.2∧True) ⟨rfl,rfl,rfl,rfl,rfl,trivial⟩ ?_)))
 intro _ i4
 obtain⟨h2,h3,h4,h5,h6,-⟩:=i4
 refine af (aa h6 (dc rfl rfl (aa (v:=.bool (decide (x3.2.2≠0))) rfl (cq 3 (I:=fun tm H=>tm 27= .bool ((decide (x3.2.2≠0)) ||(!x3.2.1))∧(∃(Z5 V5:PH),Gw Z4 V4 Z5 V5∧Sat Z5 V5 H [pts b1 (.rw 0 [vi x1.Terms,vi x1.Nons,vi x1.Start,(vS d1 x1.Rules)]),It.sl (Sh.ro Sh.D8) (vS d1 x1.Rules) x1.Rules,pts b2 (.rw 0 [vi x3.1.Start,(vS d2 x3.1.Accept),(vS d3 x3.1.Next)]),Is Sh.int d2 x3.1.Accept,Is sI1 d3 x3.1.Next]∧tm 1=v2∧tm 5=(pV b1 0)∧tm 6=(pV b2 0))) (fun k1=>?_) ?_))))
 ·rcases Bool.eq_false_or_eq_true (decide (x3.2.2≠0)) with q4|q4
  ·refine aD rfl q4 (aD rfl q4 (aT (a:=.bool true) rfl q4 rfl ?_))
   exact k1 _ _ ⟨gf rfl (by first|(rw [q4];first|done|rfl)|simp [q4]),_,_,Gw.refl _ _,(s11.pick [3,4,0,1,2] rfl),h2,h3,h4⟩
  refine aA rfl q4 (aa h5 (aA rfl q4 (cC rfl (aU (b:=.bool (!x3.2.1)) rfl q4 rfl ?_))))
  exact k1 _ _ ⟨gf rfl (by first|(rw [q4];first|done|rfl)|simp [q4]),_,_,Gw.refl _ _,(s11.pick [3,4,0,1,2] rfl),h2,h3,h4⟩
 intro _ H8 i5
 obtain⟨h10,Z5,V5,g5,s12,h7,h8,h9⟩:=i5
 refine aa h10 (cq 5 (I:=fun tm H=>tm 33= .bool (((decide (x3.2.2≠0)) ||(!x3.2.1)) ||(decide ((x3.1.Next.length:Int)≠2)))∧(∃(Z6 V6:PH),Gw Z5 V5 Z6 V6∧Sat Z6 V6 H [pts b1 (.rw 0 [vi x1.Terms,vi x1.Nons,vi x1.Start,(vS d1 x1.Rules)]),It.sl (Sh.ro Sh.D8) (vS d1 x1.Rules) x1.Rules]∧tm 1=v2∧tm 5=(pV b1 0))) (fun k2=>?_) ?_)
 ·rcases Bool.eq_false_or_eq_true ((decide (x3.2.2≠0)) ||(!x3.2.1)) with q5|q5
  ·refine aD rfl q5 (aD rfl q5 (aD rfl q5 (aD rfl q5 (aT (a:=.bool true) rfl q5 rfl ?_))))
   exact k2 _ _ ⟨gf rfl (by first|(rw [q5];first|done|rfl)|simp [q5]),_,_,Gw.refl _ _,(s12.pick [0,1] rfl),h7,h8⟩
  refine aA rfl q5 (am h9 (aA rfl q5 (ak 2 s12 rfl rfl rfl rfl (aA rfl q5 (aB rfl ((s12.curS (s:=sI1) 4 rfl)).len (aA rfl q5 (dc rfl rfl (aU (b:=.bool (decide ((x3.1.Next.length:Int)≠2))) rfl q5 rfl ?_))))))))
  exact k2 _ _ ⟨gf rfl (by first|(rw [q5];first|done|rfl)|simp [q5]),_,_,Gw.refl _ _,(s12.pick [0,1] rfl),h7,h8⟩
 intro _ H9 i6
 obtain⟨h13,Z6,V6,g6,s13,h11,h12⟩:=i6
 refine ae (bt h13 (fun q6=>?_) (fun q6=>?_))
 ·replace e:=ay q6 e
  refine af (aa (v:=.bool false) rfl (ae (aL ?_)))
  obtain rfl:=oJ e
  exact⟨.inr rfl,_,(ar1 rfl),rfl,((s13.pick [] rfl).weak (g1.trans (g2.trans (g3.trans (g4.trans (g5.trans g6))))) hs.zv)⟩
 replace e:=aR q6 e
 refine ar (af (ak 0 s13 rfl h12 rfl rfl ?_))
 obtain⟨Z7,V7,g7,s14,h14⟩:=s13.frzS 1 rfl
 replace h14:=h14.of_ro
 obtain⟨x4,q7,e⟩:=oB e
 obtain⟨Z8,V8,W4,g8,u4,c13,c14,-,c16,c15⟩:=Sat.call (l1:=[]) s14
 refine ao (mc rfl m0) (X.E2 nd.E2 c13 (h14.mono g8.z) q7) fun _ H10 i7=>?_
 obtain⟨w5,w6,rfl,s15⟩:=i7
 have s16:=c15 _ _ s15
 refine aa (v:=.tuple #[(.agg #[vi x4.1.Start,w5,w6]),(.bool x4.2.1),vi x4.2.2]) rfl (bz rfl rfl (bz rfl rfl (bz rfl rfl (bh s16 fun b3 H11 s17=>?_))))
 obtain⟨d4,rfl⟩:=((s17.curS (s:=Sh.int) 1 rfl)).val
 obtain⟨d5,rfl⟩:=((s17.curS (s:=sI1) 2 rfl)).val
 refine aM (us':=[vi x4.1.Start,(vS d4 x4.1.Accept),(vS d5 x4.1.Next)]) 0 s17 rfl rfl rfl rfl rfl rfl rfl fun H12 s18=>aa (v:=.bool x4.2.1) rfl (aa (v:=vi x4.2.2) rfl (ae (af (ak 3 s18 rfl h12 rfl rfl (aa h11 ?_)))))
 obtain⟨x5,q8,e⟩:=oB e
 obtain⟨Z9,V9,W5,g9,u5,c17,c18,-,c20,c19⟩:=Sat.call (l1:=[]) s18
 refine ao (mc rfl (mc rfl m0)) (X.K3 nd.K3 c17 (h14.mono (g8.trans g9).z) (hp2.mono ((g1.trans (g2.trans (g3.trans (g4.trans (g5.trans (g6.trans (g7.trans g8))))))).trans g9).z) q8) fun _ H13 i8=>?_
 obtain⟨w7,rfl,s19⟩:=i8
 have s20:=c19 _ _ s19
 refine aa (v:=.tuple #[(.agg #[vi x5.1.Rule,vi x5.1.Term,w7]),(.bool x5.2)]) rfl (bz rfl rfl (bz rfl rfl (bh s20 fun b4 H14 s21=>?_)))
 obtain⟨d6,rfl⟩:=((s21.curS (s:=Sh.ro Sh.G3) 1 rfl)).val
 refine aM (us':=[vi x5.1.Rule,vi x5.1.Term,(vS d6 x5.1.Kids)]) 0 s21 rfl rfl rfl rfl rfl rfl rfl fun H15 s22=>aa (v:=.bool x5.2) rfl (ae (aq (P:=fun tm=>tm 9=(pV b3 0)∧tm 11=vi x4.2.2∧tm 12=(pV b4 0)∧tm 13=(.bool x5.2)∧True) ⟨rfl,rfl,rfl,rfl,trivial⟩ ?_))
 intro _ i9
 obtain⟨h15,h16,h17,h18,-⟩:=i9
 refine ah ?_
 obtain⟨y1,e1,e⟩:=oB e
 refine aZ (I:=fun tm H=>∃(Z10 V10:PH),Gw Z9 V9 Z10 V10∧Sat Z10 V10 H []∧tm 4=(.bool y1)) (fun k3=>?_) ?_
 ·refine aC s22 fun n1 H17 s24 q9 d7=>aj h16 (jV rfl rfl (aj (v:=.bool (decide (x4.2.2=2))) rfl ?_))
  rcases Bool.eq_false_or_eq_true (decide (x4.2.2=2)) with q10|q10
  ·replace e1:=ay q10 e1
   refine aw rfl q10 (aw rfl q10 (aw rfl q10 (dw rfl (dw rfl (dw rfl (dw rfl (dw rfl (dw rfl (dw rfl (dw rfl (aw rfl q10 (bE (a:=.bool true) rfl q10 rfl (aj (v:=.bool true) rfl (aS (cQ rfl (ta8 (tre (tl8 (trl tr0)))) (ta4 (ta2 (tre (tl8 (tl2 (trl tr0)))))) (ta4 (tra (tre (tl8 (tl4 tr0))))) (gg (kb rfl)) (gg (kb rfl)) aI) ?_))))))))))))))
   obtain rfl:=oJ e1
   exact k3 _ _ ⟨_,_,Gw.refl _ _,(s24.pick [] rfl),rfl⟩
  replace e1:=aR q10 e1
  refine ai rfl q10 (aj h16 (ai rfl q10 (jV rfl rfl (ai rfl q10 (aj (v:=.bool (decide (x4.2.2=0))) rfl ?_)))))
  rcases Bool.eq_false_or_eq_true (decide (x4.2.2=0)) with q11|q11
  ·replace e1:=ay q11 e1
   refine ai rfl q11 (aj h18 (ai rfl q11 (dD rfl (ai rfl q11 (aj (v:=.bool (!x5.2)) rfl ?_)))))
   rcases Bool.eq_false_or_eq_true (!x5.2) with q12|q12
   ·replace e1:=ay q12 e1
    refine aw rfl q12 (aw rfl q12 (aw rfl q12 (aw rfl q12 (ai rfl q11 (bE (a:=.bool true) rfl q12 rfl (ai rfl q10 (bE (a:=.bool true) rfl q11 rfl (bB (b:=.bool true) rfl q10 rfl (aj (v:=.bool true) rfl (aS (cQ rfl (ta8 (tre (tl8 (trl tr0)))) (ta4 (ta2 (tre (tl8 (tl2 (trl tr0)))))) (ta4 (tra (tre (tl8 (tl4 tr0))))) (gg (kj rfl q12)) (gg (kj rfl q12)) aI) ?_))))))))))
    obtain rfl:=oJ e1
    exact k3 _ _ ⟨_,_,Gw.refl _ _,(s24.pick [] rfl),rfl⟩
   replace e1:=aR q12 e1
   refine ai rfl q12 (bn (q9 _ _ (ap.2 ⟨s24.curB 2 rfl,by simp⟩)) 2 s24 rfl h15 rfl rfl (ai rfl q12 (bn (q9 _ _ (ap.2 ⟨s24.curB 0 rfl,by simp⟩)) 0 s24 rfl h17 rfl rfl (ai rfl q12 ?_))))
   obtain⟨x6,q13,e1⟩:=oB e1
   obtain⟨Z11,V11,W6,g11,u6,c21,c22,-,c24,c23⟩:=Sat.call (l1:=[]) s24
   refine bM (mc rfl m0) (X.K6 nd.K6 c21 (c22 1 _ (Sh.ro Sh.G3) _ _ rfl) q13) fun w8 H18 i10 k4=>?_
   have d8:=d7.keep k4
   obtain⟨_,rfl,s25⟩:=i10
   have s26:=c23 _ _ s25
   refine ai rfl q12 ?_
   obtain⟨x7,q14,e1⟩:=oB e1
   obtain⟨Z12,V12,W7,g12,u7,c25,c26,-,c28,c27⟩:=Sat.call (l1:=[]) s26
   refine bM (mc rfl (mc rfl m0)) (X.J3 nd.J3 c25 (c26 4 _ Sh.int _ _ rfl) (c26 5 _ sI1 _ _ rfl) (c26 0 _ Sh.int _ _ rfl) q14) fun _ H19 i11 k5=>?_
   have d9:=d8.keep k5
   obtain⟨rfl,s27⟩:=i11
   have s28:=c27 _ _ s27
   refine ai rfl q11 (bB (b:=.bool x7) rfl q12 rfl (ai rfl q10 (bE (a:=.bool x7) rfl q11 rfl (bB (b:=.bool x7) rfl q10 rfl (aj (v:=.bool x7) rfl (aS (cQ rfl (ta8 (tre (tl8 (trl tr0)))) (ta4 (ta2 (tre (tl8 (tl2 (trl tr0)))))) (ta4 (tra (tre (tl8 (tl4 tr0))))) (cj (w:=.agg #[vi x4.1.Start,(vS d4 x4.1.Accept),(vS d5 x4.1.Next)]) (ki rfl q12) h15 (bH 2 s24 rfl rfl rfl) (bH 2 s24 rfl rfl rfl) (by simp [vsame,vsame1])) (cj (w:=.agg #[vi x4.1.Start,(vS d4 x4.1.Accept),(vS d5 x4.1.Next)]) (ki rfl q12) h15 (bH 2 s24 rfl rfl rfl) (bH 3 s26 rfl rfl rfl) (by simp [vsame,vsame1])) aI) ?_))))))
   obtain rfl:=oJ e1
   exact k3 _ _ ⟨_,_,(g11.trans g12),(s28.pick [] rfl),rfl⟩
  replace e1:=aR q11 e1
  refine aw rfl q11 (aw rfl q11 (aw rfl q11 (dw rfl (dw rfl (dw rfl (dw rfl (aw rfl q11 (ai rfl q10 (bB (b:=.bool false) rfl q11 rfl (bB (b:=.bool false) rfl q10 rfl (aj (v:=.bool false) rfl (aS (cQ rfl (ta8 (tre (tl8 (trl tr0)))) (ta4 (ta2 (tre (tl8 (tl2 (trl tr0)))))) (ta4 (tra (tre (tl8 (tl4 tr0))))) (gg (kb rfl)) (gg (kb rfl)) aI) ?_))))))))))))
  obtain rfl:=oJ e1
  exact k3 _ _ ⟨_,_,Gw.refl _ _,(s24.pick [] rfl),rfl⟩
 intro _ H16 i12
 obtain⟨Z10,V10,g10,s23,h19⟩:=i12
 refine aL ?_
 obtain rfl:=oJ e
 exact⟨.inr rfl,_,(ar1 h19),rfl,(s23.weak (g1.trans (g2.trans (g3.trans (g4.trans (g5.trans (g6.trans (g7.trans (g8.trans (g9.trans g10))))))))) hs.zv)⟩
end Go.Proofs.Ytmfkjilndpchbaa
