import Derived.Test.YtmfkjilndpchbaaX2
import Derived.Test.YtmfkjilndpchbaaGapprox
import Derived.Test.YtmfkjilndpchbaaGcmp
import Derived.Test.YtmfkjilndpchbaaGdfa
import Derived.Test.YtmfkjilndpchbaaGgram
import Derived.Test.YtmfkjilndpchbaaGlinear
import Derived.Test.YtmfkjilndpchbaaGmathbits
import Derived.Test.YtmfkjilndpchbaaGmini
import Derived.Test.YtmfkjilndpchbaaGparlkeep5
import Derived.Test.YtmfkjilndpchbaaGparlmake
import Derived.Test.YtmfkjilndpchbaaGslices
import Derived.Test.YtmfkjilndpchbaaGteach
namespace Go.Proofs.Ytmfkjilndpchbaa
open Go Go.Ab
set_option maxHeartbeats 1000000
variable {T:FuncId→Option AFunc}{Z V:PH}{H:Hp}
structure Nd.G0 (T:FuncId→Option AFunc):Prop where
 own:Has T I.G0 F.G0
 D8:Nd.D8 T
 C5:Nd.C5 T
 B9:Nd.B9 T
 D0:Nd.D0 T
theorem X.G0 {T:FuncId→Option AFunc}(nd:Nd.G0 T){φ:Nat}{Z V:PH}{H:Hp}{v1:Value}{v2:Value}{a0:Ty.J5}(hs:Sat Z V H [])(hp1:RdS Sh.int V v1 a0.Accept)(hp2:RdS sI1 V v2 a0.Next){r:(Ty.J5×Int)}(e:P.G0 φ a0=some r):
 G T I.G0 [(.agg #[vi a0.Start,v1,v2])] H (fun rv H'=>∃(u1:Value) (u2:Value),rv=(.tuple #[(.agg #[vi r.1.Start,u1,u2]),vi r.2])∧Sat Z V H' [It.sl Sh.int u1 r.1.Accept,It.sl sI1 u2 r.1.Next]):=by
 unfold P.G0 at e
 refine bB nd.own (af ?_)
 obtain⟨d1,rfl⟩:=(hp1).val
 obtain⟨d2,rfl⟩:=(hp2).val
 refine cx hs rfl rfl fun b1 H1 s1=>bv s1 fun b2 H2 s2=>aa (v:=vi 0) rfl (ae (ah (af (ak 1 s2 rfl rfl rfl rfl ?_))))
 obtain⟨x1,q1,e⟩:=oB e
 obtain⟨Z1,V1,W1,g1,u1,c1,c2,-,c4,c3⟩:=Sat.call (l1:=[]) s2
 refine au (mc rfl m0) (X.D8 nd.D8 c1 (hp1.mono (g1.v.trans u1)) (hp2.mono (g1.v.trans u1)) q1) fun _ H3 i1=>?_
 obtain⟨rfl,s3⟩:=i1
 have s4:=c3 _ _ s3
 refine aa (v:=vi x1) rfl (ae (af (aa (v:=vi x1) rfl (cQ rfl rfl (ae (aI rfl (fun q2=>?_) (fun q2=>?_)))))))
 ·replace e:=ax q2 e
  refine af (bR (qs:=[]) rfl rfl (aa (v:=vi x1) rfl (aP (us':=[vi 0,(.slice none 0 0),(.slice none 0 0)]) 0 s4 rfl rfl rfl rfl rfl rfl rfl fun H4 s5=>aa (v:=vi x1) rfl (ae (ap (P:=fun tm=>tm 2=(pV b2 0)∧tm 3=vi x1∧True) ⟨rfl,rfl,trivial⟩ ?_)))))
  intro _ i2
  obtain⟨h1,h2,-⟩:=i2
  refine aL ?_
  obtain rfl:=oJ e
  exact⟨.inr rfl,_,(ra2 (rac 0 s5 rfl h1 rfl rfl) (rat h2)),_,_,rfl,((((s5.push (aW (s:=Sh.int))).push (aW (s:=sI1))).pick [1,0] rfl).weak g1 hs.zv)⟩
 replace e:=bb q2 e
 refine ar (af (ak 1 s4 rfl rfl rfl rfl ?_))
 obtain⟨x2,q3,e⟩:=oB e
 obtain⟨Z2,V2,W2,g2,u2,c5,c6,-,c8,c7⟩:=Sat.call (l1:=[]) s4
 refine au (mc rfl m0) (X.C5 nd.C5 c5 (hp1.mono ((g1.trans g2).v.trans u2)) (hp2.mono ((g1.trans g2).v.trans u2)) q3) fun _ H5 i3=>?_
 obtain⟨w1,w2,w3,rfl,s6⟩:=i3
 have s7:=c7 _ _ s6
 refine bv s7 fun b3 H6 s8=>?_
 obtain⟨d3,rfl⟩:=((s8.curS (s:=Sh.int) 1 rfl)).val
 obtain⟨d4,rfl⟩:=((s8.curS (s:=sI1) 2 rfl)).val
 obtain⟨d5,rfl⟩:=((s8.curS (s:=sI2) 3 rfl)).val
 refine aP (us':=[(vS d3 x2.accept),(vS d4 x2.next_),(vS d5 x2.prev)]) 0 s8 rfl rfl rfl rfl rfl rfl rfl fun H7 s9=>ae (ap (P:=fun tm=>tm 1=(pV b1 0)∧tm 2=(pV b2 0)∧tm 5=(pV b3 0)∧True) ⟨rfl,rfl,rfl,trivial⟩ ?_)
 intro _ i4
 obtain⟨h3,h4,h5,-⟩:=i4
 refine af (ak 0 s9 rfl h5 rfl rfl ?_)
 obtain⟨x3,q4,e⟩:=oB e
 obtain⟨Z3,V3,W3,g3,u3,c9,c10,-,c12,c11⟩:=Sat.call (l1:=[]) s9
 refine au (mc rfl m0) (X.B9 nd.B9 c9 (c10 1 _ Sh.int _ _ rfl) (c10 2 _ sI1 _ _ rfl) (c10 3 _ sI2 _ _ rfl) q4) fun w4 H8 i5=>?_
 obtain⟨_,rfl,s10⟩:=i5
 have s11:=c11 _ _ s10
 refine aa (v:=w4) rfl (ae (af (aa (v:=w4) rfl (am h3 (ak 6 s11 rfl rfl rfl rfl (aD rfl ((hp2.mono (g1.trans (g2.trans g3)).v)).len ?_))))))
 obtain⟨x4,q5,e⟩:=oB e
 refine aJ (v:=w4) rfl rfl (s11.curS (s:=Sh.int) 0 rfl) rfl q5 fun p1 q6=>cj rfl (s11.curS (s:=Sh.int) 0 rfl) pR q6 q5 (aa (v:=vi x4) rfl (ae (ap (P:=fun tm=>tm 1=(pV b1 0)∧tm 2=(pV b2 0)∧tm 5=(pV b3 0)∧tm 6=w4∧tm 7=vi x4∧True) ⟨h3,h4,h5,rfl,rfl,trivial⟩ ?_)))
 intro _ i6
 obtain⟨h6,h7,h8,h9,h10,-⟩:=i6
 refine af (dy (vi:Int→Value) (vi:Int→Value) s11 fun b4 H9 s12=>aa h9 (am h6 (ak 7 s12 rfl rfl rfl rfl ?_)))
 obtain⟨x5,q7,e⟩:=oB e
 refine aJ (v:=w4) rfl rfl (s12.curS (s:=Sh.int) 1 rfl) rfl q7 fun p2 q8=>cj rfl (s12.curS (s:=Sh.int) 1 rfl) pR q8 q7 (dz Mk.i (q:=x5) (v:=0) 0 s12 rfl rfl rfl rfl rfl rfl fun H10 s13=>aa (v:=.map (some b4)) rfl (aa (v:=.map (some b4)) rfl (ae (af (bR (qs:=[]) rfl rfl (bv s13 fun b5 H11 s14=>aP (us':=[vi 0,(.slice none 0 0),(.slice none 0 0)]) 0 s14 rfl rfl rfl rfl rfl rfl rfl fun H12 s15=>ae (ap (P:=fun tm=>tm 1=(pV b1 0)∧tm 2=(pV b2 0)∧tm 5=(pV b3 0)∧tm 6=w4∧tm 7=vi x4∧tm 8=(.map (some b4))∧tm 9=(pV b5 0)∧True) ⟨h6,h7,h8,h9,h10,rfl,rfl,trivial⟩ ?_)))))))
 intro _ i7
 obtain⟨h11,h12,h13,h14,h15,h16,h17,-⟩:=i7
 refine ah (af (am h11 (ak 8 s15 rfl rfl rfl rfl (bP (s:=Sh.int) (us:=[vi a0.Start]) (qs:=[(0,1,(vi a0.Start))]) (xs:=[a0.Start]) s15 Sh.G5 rfl rfl rfl (Els.cons (c:=[vi a0.Start]) rfl Els.nil) rfl rfl fun w5 H13 s16=>aa (v:=w5) rfl (ae ?_)))))
 obtain⟨y1,q11,e⟩:=oB e
 refine bf (I:=fun tm H=>∃(s19:((List (Int×Int))×(List Int)×(List (List Int))×(List Int))),y1= .out s19∧(∃(Z5 V5:PH) (w9:Value) (w10:Value) (w11:Value),Gw Z3 V3 Z5 V5∧Sat Z5 V5 H [pts b1 (.rw 0 [vi a0.Start,(vS d1 a0.Accept),(vS d2 a0.Next)]),pts b2 (.rw 0 [vi 0,(.slice none 0 0),(.slice none 0 0)]),pts b3 (.rw 0 [(vS d3 x2.accept),(vS d4 x2.next_),(vS d5 x2.prev)]),Is Sh.int d3 x2.accept,Is sI1 d4 x2.next_,Is sI2 d5 x2.prev,It.sl Sh.int w4 x3,It.mp vi vi b4 s19.1,pts b5 (.rw 0 [vi 0,w9,w10]),It.sl Sh.int w9 s19.2.1,It.sl sI1 w10 s19.2.2.1,It.sl Sh.int w11 s19.2.2.2]∧tm 1=(pV b1 0)∧tm 2=(pV b2 0)∧tm 5=(pV b3 0)∧tm 6=w4∧tm 7=vi x4∧tm 8=(.map (some b4))∧tm 9=(pV b5 0)∧tm 10=w11)) (fun k4=>?_) ?_
 ·refine ay (cc (fun(s17:((List (Int×Int))×(List Int)×(List (List Int))×(List Int))) tm H=>∃(Z4 V4:PH) (w6:Value) (w7:Value) (w8:Value),Gw Z3 V3 Z4 V4∧Sat Z4 V4 H [pts b1 (.rw 0 [vi a0.Start,(vS d1 a0.Accept),(vS d2 a0.Next)]),pts b2 (.rw 0 [vi 0,(.slice none 0 0),(.slice none 0 0)]),pts b3 (.rw 0 [(vS d3 x2.accept),(vS d4 x2.next_),(vS d5 x2.prev)]),Is Sh.int d3 x2.accept,Is sI1 d4 x2.next_,Is sI2 d5 x2.prev,It.sl Sh.int w4 x3,It.mp vi vi b4 s17.1,pts b5 (.rw 0 [vi 0,w6,w7]),It.sl Sh.int w6 s17.2.1,It.sl sI1 w7 s17.2.2.1,It.sl Sh.int w8 s17.2.2.2]∧tm 1=(pV b1 0)∧tm 2=(pV b2 0)∧tm 5=(pV b3 0)∧tm 6=w4∧tm 7=vi x4∧tm 8=(.map (some b4))∧tm 9=(pV b5 0)∧tm 10=w8) (fun s17 y2 tm H15 j1 e1 k1 k2 k3=>?_) q11 ⟨_,_,_,_,_,Gw.refl _ _,(((s16.push (aW (s:=Sh.int))).push (aW (s:=sI1))).pick [11,10,6,7,8,9,5,4,3,1,0,2] rfl),h11,h12,h13,h14,h15,h16,h17,rfl⟩)
  obtain⟨Z4,V4,w6,w7,w8,g4,s18,h18,h19,h20,h21,h22,h23,h24,h25⟩:=j1
  unfold P.G0.b0 at e1
  refine ah (af (aa h25 (aD rfl ((s18.curS (s:=Sh.int) 11 rfl)).len (cC rfl rfl (ae (aI rfl (fun q12=>?_) (fun q12=>?_)))))))
  ·replace e1:=ax q12 e1
   refine ar (ah (ay (af (bP (s:=Sh.int) (us:=[(vi (-1))]) (qs:=[(0,1,(vi (-1)))]) (xs:=[(-1)]) s18 Sh.G5 rfl rfl rfl (Els.cons (c:=[(vi (-1))]) rfl Els.nil) rfl rfl fun w12 H17 s21=>am h18 (ak 1 s21 rfl rfl rfl rfl ?_)))))
   obtain⟨x7,q13,e1⟩:=oB e1
   refine aJ (v:=vS d2 a0.Next) rfl rfl (hp2.mono (g1.trans (g2.trans (g3.trans g4))).v) rfl q13 fun p3 q14=>dh rfl (hp2.mono (g1.trans (g2.trans (g3.trans g4))).v) s21.v q14 q13 fun w13 h34=>aD rfl (h34).len ?_
   obtain⟨x8,q15,e1⟩:=oB e1
   obtain⟨Z6,V6,W4,g6,u4,c13,c14,-,c16,c15⟩:=Sat.call (l1:=[]) s21
   refine au (mc rfl (mc rfl m0)) (X.D0 nd.D0 c13 (c14 0 _ Sh.int _ _ rfl) q15) fun w14 H18 i9=>?_
   obtain⟨_,rfl,s22⟩:=i9
   have s23:=c15 _ _ s22
   refine aa (v:=w14) rfl (ae (ap (P:=fun tm=>tm 1=(pV b1 0)∧tm 2=(pV b2 0)∧tm 5=(pV b3 0)∧tm 6=w4∧tm 7=vi x4∧tm 8=(.map (some b4))∧tm 9=(pV b5 0)∧tm 10=w8∧tm 11=w14∧True) ⟨h18,h19,h20,h21,h22,h23,h24,h25,rfl,trivial⟩ ?_))
   intro _ i10
   obtain⟨h35,h36,h37,h38,h39,h40,h41,h42,h43,-⟩:=i10
   refine ah (ah (aA s23 fun n1 H19 s24 q16 d6=>bt h37 (aZ (q16 _ _ (an.2 ⟨s24.curB 4 rfl,by simp⟩)) 4 s24 rfl rfl rfl rfl (aj h42 ?_))))
   obtain⟨x9,q17,e1⟩:=oB e1
   refine aq (v:=w8) rfl rfl (s24.curS (s:=Sh.int) 13 rfl) rfl q17 fun p4 q18=>aO ((s24.curS 13 rfl).low pR q16) rfl (s24.curS (s:=Sh.int) 13 rfl) pR q18 q17 ?_
   have h44:=aH (s24.curS (s:=Sh.int) 13 rfl) pR q18 q17
   obtain⟨x10,q19,e1⟩:=oB e1
   refine aq (v:=vS d4 x2.next_) rfl rfl (s24.curS (s:=sI1) 6 rfl) rfl q19 fun p5 q20=>dt ((s24.curS 6 rfl).low pR q16) rfl (s24.curS (s:=sI1) 6 rfl) pR q20 q19 fun w15 h45 h46=>dI rfl (h45).len (aj (v:=vi 0) rfl (aQ aK ?_))
   obtain⟨Z7,V7,W5,g7,u5,c17,c18,-,-,c19⟩:=Sat.call (l1:=[It.sl Sh.int w14 x8,It.sl Sh.int w12 [(-1)],pts b1 (.rw 0 [vi a0.Start,(vS d1 a0.Accept),(vS d2 a0.Next)]),pts b2 (.rw 0 [vi 0,(.slice none 0 0),(.slice none 0 0)]),pts b3 (.rw 0 [(vS d3 x2.accept),(vS d4 x2.next_),(vS d5 x2.prev)]),Is Sh.int d3 x2.accept,Is sI2 d5 x2.prev,It.sl Sh.int w4 x3,It.mp vi vi b4 s17.1,pts b5 (.rw 0 [vi 0,w6,w7]),It.sl Sh.int w6 s17.2.1,It.sl sI1 w7 s17.2.2.1,It.sl Sh.int w8 s17.2.2.2]) (l2:=[Is sI1 d4 x2.next_]) (s24.pick [0,1,2,3,4,5,7,8,9,10,11,12,13,6] rfl)
   have h47:=c18 0 _ sI1 _ _ rfl
   have g8:Gw Z6 V6 Z7 W5:=⟨g7.z,g7.v.trans u5,g7.o⟩
   have r1:=RdS.redo h47 c17.v q20 q19 h46
   have z1:=c17.zv
   obtain⟨y3,q23,e1⟩:=oB e1
   refine ay (aV (xs:=x10) (fun(i11:Nat) (s25:((List (Int×Int))×(List Int)×(List Int))) tm H=>tm 64=vi i11∧∃(Z8 V8:PH) (w16:Value),Gw Z7 W5 Z8 V8∧Sat Z8 V8 H [pts b1 (.rw 0 [vi a0.Start,(vS d1 a0.Accept),(vS d2 a0.Next)]),pts b2 (.rw 0 [vi 0,(.slice none 0 0),(.slice none 0 0)]),pts b3 (.rw 0 [(vS d3 x2.accept),(vS d4 x2.next_),(vS d5 x2.prev)]),Is Sh.int d3 x2.accept,Is sI2 d5 x2.prev,It.sl Sh.int w4 x3,It.mp vi vi b4 s25.1,pts b5 (.rw 0 [vi 0,w6,w7]),It.sl Sh.int w6 s17.2.1,It.sl sI1 w7 s17.2.2.1,It.sl Sh.int w16 s25.2.1,It.sl Sh.int w14 s25.2.2]∧tm 1=(pV b1 0)∧tm 2=(pV b2 0)∧tm 5=(pV b3 0)∧tm 6=w4∧tm 7=vi x4∧tm 8=(.map (some b4))∧tm 9=(pV b5 0)∧tm 10=w16∧tm 11=w14∧tm 62=w15∧tm 63=(vN x10)) (fun i11 x11 s25 s27 tm H21 q21 q22 j2 e2 k5=>?_) (fun tm H20 jd=>?_) q23 ⟨rfl,_,_,_,Gw.refl _ _,(c17.pick [2,3,4,5,6,7,8,9,10,11,12,0] rfl),h35,h36,h37,h38,h39,h40,h41,h42,h43,rfl,rfl⟩)
   ·obtain⟨hti1,Z8,V8,w16,g9,s26,h48,h49,h50,h51,h52,h53,h54,h55,h56,h57,h58⟩:=j2
    unfold P.G0.b1 at e2
    refine af (ao hti1 h58 (ae (ah (be rfl (Int.ofNat_lt.2 q22) (ar (ah (ay (af (aa hti1 (aJ (v:=w15) h57 hti1 (r1.1.mono g9.v) rfl (Pu.ix_nat.trans q21) fun p6 q24=>cj rfl (r1.1.mono g9.v) s26.v q24 (Pu.ix_nat.trans q21) (aa (v:=vJ i11) rfl (aa (v:=vi x11) rfl (ae (af (aa h51 (aa (v:=vi x11) rfl ?_))))))))))))))))
    obtain⟨x12,q25,e2⟩:=oB e2
    refine aJ (v:=w4) rfl rfl (s26.curS (s:=Sh.int) 5 rfl) rfl q25 fun p7 q26=>cj rfl (s26.curS (s:=Sh.int) 5 rfl) pR q26 q25 (aa (v:=vi x12) rfl (ae (ap (P:=fun tm=>tm 1=(pV b1 0)∧tm 2=(pV b2 0)∧tm 5=(pV b3 0)∧tm 6=w4∧tm 7=vi x4∧tm 8=(.map (some b4))∧tm 9=(pV b5 0)∧tm 10=w16∧tm 11=w14∧tm 12=(vJ i11)∧tm 13=vi x11∧tm 14=vi x12∧tm 62=w15∧tm 63=(vN x10)∧tm 64=(vJ i11)∧True) ⟨h48,h49,h50,h51,h52,h53,h54,h55,h56,rfl,rfl,rfl,h57,h58,hti1,trivial⟩ ?_)))
    intro _ i12
    obtain⟨h59,h60,h61,h62,h63,h64,h65,h66,h67,h68,h69,h70,h71,h72,h73,-⟩:=i12
    refine ah (af (aa h70 (aa h63 (co rfl rfl (ae (aI rfl (fun q27=>?_) (fun q27=>?_)))))))
    ·replace e2:=ax q27 e2
     refine aR (aU (bT (bq (az h73 rfl (aa (v:=vi (Pu.W ((i11:Int)+1))) rfl (ae ?_))))))
     obtain rfl:=oJ e2
     exact k5 _ _ ⟨(iv rfl (bE q22 (r1.1).bd)),_,_,_,g9,s26,h59,h60,h61,h62,h63,h64,h65,h66,h67,h71,h72⟩
    replace e2:=bb q27 e2
    refine ar (ah (af (aa h64 (aa h70 (gK Mk.i (q:=x12) (z:=0) 6 s26 rfl rfl rfl rfl rfl (aa (v:=.tuple #[(vi ((Pu.mget x12 s25.1).getD 0)),(.bool ((Pu.mget x12 s25.1).isSome))]) rfl (bH rfl rfl (bH rfl rfl (aa (v:=vi ((Pu.mget x12 s25.1).getD 0)) rfl (aa (v:=.bool ((Pu.mget x12 s25.1).isSome)) rfl (ae (ap (P:=fun tm=>tm 1=(pV b1 0)∧tm 2=(pV b2 0)∧tm 5=(pV b3 0)∧tm 6=w4∧tm 7=vi x4∧tm 8=(.map (some b4))∧tm 9=(pV b5 0)∧tm 10=w16∧tm 11=w14∧tm 12=(vJ i11)∧tm 13=vi x11∧tm 14=vi x12∧tm 16=(.bool ((Pu.mget x12 s25.1).isSome))∧tm 62=w15∧tm 63=(vN x10)∧tm 64=(vJ i11)∧True) ⟨h59,h60,h61,h62,h63,h64,h65,h66,h67,h68,h69,h70,rfl,h71,h72,h73,trivial⟩ ?_))))))))))))
    intro _ i13
    obtain⟨h74,h75,h76,h77,h78,h79,h80,h81,h82,h83,h84,h85,h86,h87,h88,h89,-⟩:=i13
    refine af (aa h86 (cy rfl (ae ?_)))
    obtain⟨y4,e3,e2⟩:=oB e2
    refine bf (I:=fun tm H=>∃(Z9 V9:PH) (w17:Value),Gw Z8 V8 Z9 V9∧Sat Z9 V9 H [pts b1 (.rw 0 [vi a0.Start,(vS d1 a0.Accept),(vS d2 a0.Next)]),pts b2 (.rw 0 [vi 0,(.slice none 0 0),(.slice none 0 0)]),pts b3 (.rw 0 [(vS d3 x2.accept),(vS d4 x2.next_),(vS d5 x2.prev)]),Is Sh.int d3 x2.accept,Is sI2 d5 x2.prev,It.sl Sh.int w4 x3,It.mp vi vi b4 y4.1,pts b5 (.rw 0 [vi 0,w6,w7]),It.sl Sh.int w6 s17.2.1,It.sl sI1 w7 s17.2.2.1,It.sl Sh.int w17 y4.2,It.sl Sh.int w14 s25.2.2]∧tm 1=(pV b1 0)∧tm 2=(pV b2 0)∧tm 5=(pV b3 0)∧tm 6=w4∧tm 7=vi x4∧tm 8=(.map (some b4))∧tm 9=(pV b5 0)∧tm 10=w17∧tm 11=w14∧tm 12=(vJ i11)∧tm 14=vi x12∧tm 62=w15∧tm 63=(vN x10)∧tm 64=(vJ i11)) (fun k6=>?_) ?_
    ·refine bx rfl (fun q28=>?_) (fun q28=>?_)
     ·replace e3:=ax q28 e3
      refine af (aa h79 (aa h85 (aa h79 (o_lenm 6 s26 rfl rfl (dz Mk.i (q:=x12) (v:=(s25.1.length:Int)) 6 s26 rfl rfl rfl rfl rfl rfl fun H23 s29=>ae (bq (aa h81 (aa h84 (bP (s:=Sh.int) (us:=[vi x11]) (qs:=[(0,1,(vi x11))]) (xs:=[x11]) s29 Sh.G5 rfl rfl rfl (Els.cons (c:=[vi x11]) rfl Els.nil) rfl rfl fun w18 H24 s30=>?_)))))))))
      obtain⟨x13,q29,e3⟩:=oB e3
      refine cn 11 s30 rfl Sh.G5 rfl rfl rfl rfl (s30.curS (s:=Sh.int) 0 rfl) pR (fun h=>h) (by decide) q29 fun w19 H25 s31=>aa (v:=w19) rfl (ae ?_)
      obtain rfl:=oJ e3
      exact k6 _ _ ⟨_,_,_,Gw.refl _ _,(s31.pick [1,2,3,4,5,6,7,8,9,10,11,12] rfl),h74,h75,h76,h77,h78,h79,h80,rfl,h82,h83,h85,h87,h88,h89⟩
     replace e3:=aS q28 e3
     refine ar ?_
     obtain rfl:=oJ e3
     exact k6 _ _ ⟨_,_,_,Gw.refl _ _,s26,h74,h75,h76,h77,h78,h79,h80,h81,h82,h83,h85,h87,h88,h89⟩
    intro _ H22 i14
    obtain⟨Z9,V9,w17,g10,s28,h90,h91,h92,h93,h94,h95,h96,h97,h98,h99,h100,h101,h102,h103⟩:=i14
    refine bq (aa h98 (aa h99 (aa h95 (aa h100 (ck Mk.i (q:=x12) (z:=0) 6 s28 rfl rfl rfl rfl rfl ?_)))))
    obtain⟨x14,q30,e2⟩:=oB e2
    refine aJ (v:=w14) rfl rfl (s28.curS (s:=Sh.int) 11 rfl) rfl q30 fun p8 q31=>jq 11 s28 rfl Sh.G5 rfl rfl rfl q31 q30 rfl rfl fun H26 s32=>ae (aF (bq (az h103 rfl (aa (v:=vi (Pu.W ((i11:Int)+1))) rfl (ae ?_)))))
    obtain rfl:=oJ e2
    exact k5 _ _ ⟨(iv rfl (bE q22 (r1.1).bd)),_,_,_,(g9.trans g10),s32,h90,h91,h92,h93,h94,h95,h96,h97,h98,h101,h102⟩
   obtain⟨hte1,Z10,V10,w20,g11,s33,h104,h105,h106,h107,h108,h109,h110,h111,h112,h113,h114⟩:=jd
   refine af (ao hte1 h114 (ae (ah (bc rfl (Int.lt_irrefl _) (aR (aU (aU (bT ?_))))))))
   have s34:=c19 _ _ (Sat.weak g11 z1 s33)
   refine aA s34 fun n2 H28 s35 q32 d7=>bt h110 ?_
   obtain⟨d8,rfl⟩:=((s35.curS (s:=Sh.int) 8 rfl)).val
   obtain⟨d9,rfl⟩:=((s35.curS (s:=sI1) 9 rfl)).val
   refine aZ (q32 _ _ (an.2 ⟨s35.curB 7 rfl,by simp⟩)) 7 s35 rfl rfl rfl rfl (bt h106 (aZ (q32 _ _ (an.2 ⟨s35.curB 2 rfl,by simp⟩)) 2 s35 rfl rfl rfl rfl (aj h111 ?_)))
   obtain⟨x15,q33,e1⟩:=oB e1
   refine aq (v:=w20) rfl rfl (s35.curS (s:=Sh.int) 10 rfl) rfl q33 fun p9 q34=>aO ((s35.curS 10 rfl).low pR q32) rfl (s35.curS (s:=Sh.int) 10 rfl) pR q34 q33 ?_
   have h115:=aH (s35.curS (s:=Sh.int) 10 rfl) pR q34 q33
   obtain⟨x16,q35,e1⟩:=oB e1
   refine aq (v:=vS d3 x2.accept) rfl rfl (s35.curS (s:=Sh.int) 3 rfl) rfl q35 fun p10 q36=>aO ((s35.curS 3 rfl).low pR q32) rfl (s35.curS (s:=Sh.int) 3 rfl) pR q36 q35 ?_
   have h116:=aH (s35.curS (s:=Sh.int) 3 rfl) pR q36 q35
   refine fE (s:=Sh.int) (us:=[vi x16]) (qs:=[(0,1,(vi x16))]) (xs:=[x16]) (d7.get 9 rfl rfl) s35 Sh.G5 rfl rfl rfl (Els.cons (c:=[vi x16]) rfl Els.nil) rfl rfl fun w21 H29 s36 k7=>?_
   have d10:=d7.next 9 rfl k7
   obtain⟨x17,q37,e1⟩:=oB e1
   refine fD 9 s36 rfl Sh.G5 rfl rfl rfl rfl (s36.curS (s:=Sh.int) 0 rfl) pR (fun h=>h) (by decide) q37 fun w22 H30 s37 k8=>?_
   have d11:=d10.keep k8
   refine bt h110 (aZ (q32 _ _ (an.2 ⟨s35.curB 7 rfl,by simp⟩)) 8 s37 rfl rfl rfl rfl (aj h112 ?_))
   have s38:=s37.pull 12 rfl
   refine jA (d11.get 14 rfl rfl) s38 rfl fun w23 H31 s39 k9=>?_
   have d12:=d11.next 14 rfl k9
   obtain⟨x18,q38,e1⟩:=oB e1
   refine jz 10 s39 rfl rfl rfl (by decide) q38 (List.cons_ne_nil _ _) fun w24 H32 s40 k10=>?_
   have d13:=d12.keep k10
   refine bt h110 ?_
   obtain⟨d14,rfl⟩:=((s40.curS (s:=Sh.int) 9 rfl)).val
   refine eC (us':=[vi 0,(vS d14 x17),(vS d9 s17.2.2.1)]) 8 s40 rfl rfl rfl rfl rfl rfl rfl fun H33 s41 k11=>?_
   have d15:=d13.keep k11
   refine bt h110 ?_
   obtain⟨d16,rfl⟩:=((s41.curS (s:=sI1) 10 rfl)).val
   refine eC (us':=[vi 0,(vS d14 x17),(vS d16 x18)]) 8 s41 rfl rfl rfl rfl rfl rfl rfl fun H34 s42 k12=>?_
   have d17:=d15.keep k12
   refine aQ (cV rfl (ta8 (tre (tl8 (tl4 tr0)))) (ta8 (ta2 (tre (tl8 (tl2 tr0))))) (ta8 (tra (tre (tl8 (tl2 (trl tr0)))))) (bZ (w:=vS d9 s17.2.2.1) ek rfl (bG 8 s37 rfl rfl rfl) (bG 8 s36 rfl rfl rfl) (by simp [vsame,vsame1])) (bZ (w:=vS d9 s17.2.2.1) ek rfl (bG 8 s37 rfl rfl rfl) (bG 8 s37 rfl rfl rfl) (by simp [vsame,vsame1])) aK) (aF (bq (aa h111 ?_)))
   obtain⟨x19,q39,e1⟩:=oB e1
   refine o_slclX rfl rfl (s42.curS (s:=Sh.int) 11 rfl) pR rfl q39 fun w25 h117 h118=>?_
   have s43:=Sat.conv (u:=It.sl Sh.int w25 x19) 11 rfl (fun F h _ q=>h118.1 F h q) s42
   refine aa (v:=w25) rfl (ae ?_)
   exact k1 _ _ _ (sJ e1) ⟨_,_,_,_,_,(g4.trans (g6.trans g7)),(s43.pick [1,2,3,4,12,5,6,7,8,9,10,11] rfl),h104,h105,h106,h107,h108,h109,h110,rfl⟩
  replace e1:=bb q12 e1
  refine aR (aU (aU (bT ?_)))
  exact k4 _ _ ⟨_,k2 _ (sJ e1),_,_,_,_,_,g4,s18,h18,h19,h20,h21,h22,h23,h24,h25⟩
 intro _ H16 i15
 obtain⟨s19,f1,Z5,V5,w9,w10,w11,g5,s20,h26,h27,h28,h29,h30,h31,h32,h33⟩:=i15
 replace e:=bD f1 e
 refine af ?_
 obtain⟨d18,rfl⟩:=((s20.curS (s:=Sh.int) 9 rfl)).val
 obtain⟨d19,rfl⟩:=((s20.curS (s:=sI1) 10 rfl)).val
 refine ak 8 s20 rfl h32 rfl rfl (aP (us':=[vi 0,(vS d18 s19.2.1),(vS d19 s19.2.2.1)]) 1 s20 rfl h27 rfl rfl rfl rfl rfl fun H35 s44=>aa (v:=vi 0) rfl (ae (aL ?_)))
 obtain rfl:=oJ e
 exact⟨.inr rfl,_,(ra2 (rac 1 s44 rfl h27 rfl rfl) (rat rfl)),_,_,rfl,((s44.pick [9,10] rfl).weak (g1.trans (g2.trans (g3.trans g5))) hs.zv)⟩
structure Nd.E5 (T:FuncId→Option AFunc):Prop where
 own:Has T I.E5 F.E5
 A9:Nd.A9 T
 E7:Nd.E7 T
 F6:Nd.F6 T
 B4:Nd.B4 T
 B8:Nd.B8 T
 G0:Nd.G0 T
theorem X.E5 {T:FuncId→Option AFunc}(nd:Nd.E5 T){φ:Nat}{Z V:PH}{H:Hp}{v1:Value}{a0:Ty.E8}(hs:Sat Z V H [])(hp1:RdS Sh.E2 Z v1 a0.Rules){r:(Ty.J5×Bool×Int)}(e:P.E5 φ a0=some r):
 G T I.E5 [(.agg #[vi a0.Terms,vi a0.Nons,vi a0.Start,v1])] H (fun rv H'=>∃(u1:Value) (u2:Value),rv=(.tuple #[(.agg #[vi r.1.Start,u1,u2]),(.bool r.2.1),vi r.2.2])∧Sat Z V H' [It.sl Sh.int u1 r.1.Accept,It.sl sI1 u2 r.1.Next]):=by
 unfold P.E5 at e
 refine bB nd.own (af ?_)
 obtain⟨d1,rfl⟩:=(hp1).val
 refine cx hs rfl rfl fun b1 H1 s1=>bv s1 fun b2 H2 s2=>aa (v:=.bool false) rfl (aa (v:=vi 0) rfl (ae (af (ak 1 s2 rfl rfl rfl rfl ?_))))
 obtain⟨x1,q1,e⟩:=oB e
 obtain⟨Z1,V1,W1,g1,u1,c1,c2,-,c4,c3⟩:=Sat.call (l1:=[]) s2
 refine au (mc rfl m0) (X.A9 nd.A9 c1 (hp1.mono (g1.z.trans c1.zv)) q1) fun _ H3 i1=>?_
 obtain⟨w1,rfl,s3⟩:=i1
 have s4:=c3 _ _ s3
 refine aa (v:=.tuple #[w1,vi x1.2]) rfl (bH rfl rfl (bH rfl rfl (aa (v:=w1) rfl (aa (v:=vi x1.2) rfl (ae (ap (P:=fun tm=>tm 1=(pV b1 0)∧tm 2=(pV b2 0)∧tm 5=w1∧tm 6=vi x1.2∧True) ⟨rfl,rfl,rfl,rfl,trivial⟩ ?_))))))
 intro _ i2
 obtain⟨h1,h2,h3,h4,-⟩:=i2
 refine ah (af (aa h4 (cQ rfl rfl (ae (aI rfl (fun q2=>?_) (fun q2=>?_))))))
 ·replace e:=ax q2 e
  refine af (bR (qs:=[]) rfl rfl (aa h4 (aP (us':=[vi 0,(.slice none 0 0),(.slice none 0 0)]) 1 s4 rfl h2 rfl rfl rfl rfl rfl fun H4 s5=>aa (v:=.bool false) rfl (aa (v:=vi x1.2) rfl (ae (aL ?_))))))
  obtain rfl:=oJ e
  exact⟨.inr rfl,_,(ra3 (rac 1 s5 rfl h2 rfl rfl) (rat rfl) (rat rfl)),_,_,rfl,((((s5.push (aW (s:=Sh.int))).push (aW (s:=sI1))).pick [1,0] rfl).weak g1 hs.zv)⟩
 replace e:=bb q2 e
 refine ar (ah (aA s4 fun n1 H5 s6 q3 d2=>aZ (q3 _ _ (an.2 ⟨s6.curB 2 rfl,by simp⟩)) 2 s6 rfl h1 rfl rfl (bt h1 (aZ (q3 _ _ (an.2 ⟨s6.curB 2 rfl,by simp⟩)) 2 s6 rfl rfl rfl rfl ?_))))
 obtain⟨x2,q4,e⟩:=oB e
 refine d_mks (s:=Sh.ro Sh.B6) (d2.get 3 rfl rfl) s6 (Sh.ro_lt _) rfl rfl rfl (Sh.K8 (x:=Ty.B6.mk 0 []) RdS.nil) q4 fun w2 H6 s7 k1=>?_
 have d3:=d2.next 3 rfl k1
 obtain⟨d4,rfl⟩:=((s7.curS (s:=Sh.ro Sh.B6) 0 rfl)).val
 refine hJ (qs:=[(0,4,(.agg #[vi a0.Terms,vi a0.Nons,vi a0.Start,(vS d1 a0.Rules)])),(4,1,(vS d4 x2))]) rfl rfl (d_box (d3.get 5 rfl rfl) s7 rfl rfl fun b3 H7 s8 k2=>?_)
 have d5:=d3.next 5 rfl k2
 refine aj (v:=pV b3 0) rfl (aQ aK (af (aa (v:=.bool true) rfl (ae (ap (P:=fun tm=>tm 1=(pV b1 0)∧tm 2=(pV b2 0)∧tm 5=w1∧tm 7=(pV b3 0)∧tm 8=(.bool true)∧True) ⟨h1,h2,h3,rfl,rfl,trivial⟩ ?_)))))
 intro _ i3
 obtain⟨h5,h6,h7,h8,h9,-⟩:=i3
 refine ah (af (aa h7 (aD rfl ((s8.curS (s:=Sh.ro Sh.B6) 2 rfl)).len (aa (v:=vi 0) rfl (ae ?_)))))
 obtain⟨y1,q7,e⟩:=oB e
 refine ay (aV (xs:=x1.1) (fun(i4:Nat) (s9:(List Ty.B6)) tm H=>tm 36=vi i4∧∃(Z2 V2:PH),Gw Z1 V1 Z2 V2∧Sat Z2 V2 H [pts b1 (.rw 0 [vi a0.Terms,vi a0.Nons,vi a0.Start,(vS d1 a0.Rules)]),pts b2 (.rw 0 [vi 0,(.slice none 0 0),(.slice none 0 0)]),pts b3 (.rw 0 [vi a0.Terms,vi a0.Nons,vi a0.Start,(vS d1 a0.Rules),(vS d4 x2),(.slice none 0 0)]),It.sl (Sh.ro Sh.B6) (vS d4 x2) s9,It.sl (Sh.ro Sh.B6) w1 x1.1]∧tm 1=(pV b1 0)∧tm 2=(pV b2 0)∧tm 7=(pV b3 0)∧tm 8=(.bool true)∧tm 34=w1∧tm 35=(vN x1.1)) (fun i4 x3 s9 s11 tm H9 q5 q6 j1 e1 k3=>?_) (fun tm H8 jd=>?_) q7 ⟨rfl,_,_,Gw.refl _ _,(s8.pick [4,3,0,1,2] rfl),h5,h6,h8,h9,rfl,rfl⟩)
 ·obtain⟨hti0,Z2,V2,g2,s10,h10,h11,h12,h13,h14,h15⟩:=j1
  unfold P.E5.b0 at e1
  refine af (ao hti0 h15 (ae (ah (be rfl (Int.ofNat_lt.2 q6) (ar (ah (ay (af (aJ (v:=w1) h14 hti0 (s10.curS (s:=Sh.ro Sh.B6) 4 rfl) rfl (Pu.ix_nat.trans q5) fun p1 q8=>gJ (p:=p1) 4 s10 rfl rfl rfl q8 (Pu.ix_nat.trans q5) fun Z3 V3 c5 g3 s12 h16=>?_)))))))))
  obtain⟨w3,rfl,h17⟩:=Sh.K9 h16
  refine bv s12 fun b4 H10 s13=>?_
  obtain⟨d6,rfl⟩:=(h17).val
  refine aP (us':=[vi x3.Kind,(vS d6 x3.Nons)]) 0 s13 rfl rfl rfl rfl rfl rfl rfl fun H11 s14=>ae (af (am rfl (ak 0 s14 rfl rfl rfl rfl (aD rfl (h17).len (aa (v:=vi 0) rfl (ae ?_))))))
  obtain⟨y2,q11,e1⟩:=oB e1
  refine ay (aV (xs:=x3.Nons) (fun(i5:Nat) (s15:(List Ty.B6)) tm H=>tm 43=vi i5∧∃(Z4 V4:PH),Gw Z3 V3 Z4 V4∧Sat Z4 V4 H [pts b1 (.rw 0 [vi a0.Terms,vi a0.Nons,vi a0.Start,(vS d1 a0.Rules)]),pts b2 (.rw 0 [vi 0,(.slice none 0 0),(.slice none 0 0)]),pts b3 (.rw 0 [vi a0.Terms,vi a0.Nons,vi a0.Start,(vS d1 a0.Rules),(vS d4 x2),(.slice none 0 0)]),It.sl (Sh.ro Sh.B6) (vS d4 x2) s15,pts b4 (.rw 0 [vi x3.Kind,(vS d6 x3.Nons)]),It.sl (Sh.ro Sh.B6) w1 x1.1]∧tm 1=(pV b1 0)∧tm 2=(pV b2 0)∧tm 7=(pV b3 0)∧tm 8=(.bool true)∧tm 10=(pV b4 0)∧tm 34=w1∧tm 35=(vN x1.1)∧tm 36=(vJ i4)∧tm 41=(vS d6 x3.Nons)∧tm 42=(vN x3.Nons)) (fun i5 x4 s15 s17 tm H13 q9 q10 j2 e2 k4=>?_) (fun tm H12 jd=>?_) q11 ⟨rfl,_,_,Gw.refl _ _,(s14.pick [1,2,3,4,0,5] rfl),h10,h11,h12,h13,rfl,h14,h15,hti0,rfl,rfl⟩)
  ·obtain⟨hti1,Z4,V4,g4,s16,h18,h19,h20,h21,h22,h23,h24,h25,h26,h27⟩:=j2
   unfold P.E5.b1 at e2
   refine af (ao hti1 h27 (ae (ah (be rfl (Int.ofNat_lt.2 q10) (ar (ah (ay (af (aJ (v:=vS d6 x3.Nons) h26 hti1 (h17.mono g4.z) rfl (Pu.ix_nat.trans q9) fun p2 q12=>cj rfl (h17.mono g4.z) s16.z q12 (Pu.ix_nat.trans q9) (aa (v:=vi x4) rfl (ae (aA s16 fun n2 H14 s18 q13 d7=>aj h20 (cI rfl (bt rfl (aZ (q13 _ _ (an.2 ⟨s18.curB 2 rfl,by simp⟩)) 2 s18 rfl rfl rfl rfl (aj (v:=vi x4) rfl (aZ (q13 _ _ (an.2 ⟨s18.curB 4 rfl,by simp⟩)) 4 s18 rfl h22 rfl rfl ?_)))))))))))))))))
   obtain⟨x5,q14,e2⟩:=oB e2
   refine aq (v:=vS d4 x2) rfl rfl (s18.curS (s:=Sh.ro Sh.B6) 3 rfl) rfl q14 fun p3 q15=>cw 3 s18 rfl (Sh.ro_lt _) rfl rfl rfl q15 q14 rfl (Sh.K8 (x:=x3) (h17.mono g4.z)) fun H15 s19 k5=>?_
   have d8:=d7.keep k5
   refine aQ aK (aF (bq (az hti1 rfl (aa (v:=vi (Pu.W ((i5:Int)+1))) rfl (ae ?_)))))
   obtain rfl:=oJ e2
   exact k4 _ _ ⟨(iv rfl (bE q10 (h17).bd)),_,_,g4,s19,h18,h19,h20,h21,h22,h23,h24,h25,h26,h27⟩
  obtain⟨hte1,Z5,V5,g5,s20,h28,h29,h30,h31,h32,h33,h34,h35,h36,h37⟩:=jd
  refine af (ao hte1 h37 (ae (ah (bc rfl (Int.lt_irrefl _) (aR (aU (aU (bT (aF (bq (az h35 rfl (aa (v:=vi (Pu.W ((i4:Int)+1))) rfl (ae ?_)))))))))))))
  obtain rfl:=oJ e1
  exact k3 _ _ ⟨(iv rfl (bE q6 ((s8.curS (s:=Sh.ro Sh.B6) 2 rfl)).bd)),_,_,(g2.trans (g3.trans g5)),(s20.pick [0,1,2,3,5] rfl),h28,h29,h30,h31,h33,h34⟩
 obtain⟨hte0,Z6,V6,g6,s21,h38,h39,h40,h41,h42,h43⟩:=jd
 refine af (ao hte0 h43 (ae (ah (bc rfl (Int.lt_irrefl _) (aR (aU (aU (bT (ah (af (ak 0 s21 rfl h38 rfl rfl ?_)))))))))))
 obtain⟨x6,q16,e⟩:=oB e
 obtain⟨Z7,V7,W2,g7,u2,c6,c7,-,c9,c8⟩:=Sat.call (l1:=[]) s21
 refine au (mc rfl m0) (X.E7 nd.E7 c6 (hp1.mono (((g1.trans g6).trans g7).z.trans c6.zv)) q16) fun w4 H18 i6=>?_
 obtain⟨_,rfl,s22⟩:=i6
 have s23:=c8 _ _ s22
 refine aD rfl ((s23.curS (s:=Sh.bool) 0 rfl)).len (aa (v:=vi 0) rfl (ae ?_))
 obtain⟨y3,q19,e⟩:=oB e
 refine ay (aV (xs:=x6) (fun(i7:Nat) (s24:Bool) tm H=>tm 59=vi i7∧∃(Z8 V8:PH),Gw Z7 V7 Z8 V8∧Sat Z8 V8 H [pts b1 (.rw 0 [vi a0.Terms,vi a0.Nons,vi a0.Start,(vS d1 a0.Rules)]),pts b2 (.rw 0 [vi 0,(.slice none 0 0),(.slice none 0 0)]),pts b3 (.rw 0 [vi a0.Terms,vi a0.Nons,vi a0.Start,(vS d1 a0.Rules),(vS d4 x2),(.slice none 0 0)]),It.sl (Sh.ro Sh.B6) (vS d4 x2) y1,It.sl Sh.bool w4 x6]∧tm 1=(pV b1 0)∧tm 2=(pV b2 0)∧tm 7=(pV b3 0)∧tm 8=(.bool s24)∧tm 57=w4∧tm 58=(vN x6)) (fun i7 x7 s24 s26 tm H20 q17 q18 j3 e3 k6=>?_) (fun tm H19 jd=>?_) q19 ⟨rfl,_,_,Gw.refl _ _,(s23.pick [1,2,3,4,0] rfl),h38,h39,h40,h41,rfl,rfl⟩)
 ·obtain⟨hti2,Z8,V8,g8,s25,h44,h45,h46,h47,h48,h49⟩:=j3
  unfold P.E5.b2 at e3
  refine af (ao hti2 h49 (ae (ah (be rfl (Int.ofNat_lt.2 q18) (ar (ah (ay (af (aa hti2 (aJ (v:=w4) h48 hti2 (s25.curS (s:=Sh.bool) 4 rfl) rfl (Pu.ix_nat.trans q17) fun p4 q20=>gx rfl (s25.curS (s:=Sh.bool) 4 rfl) pR q20 (Pu.ix_nat.trans q17) (aa (v:=vJ i7) rfl (aa (v:=.bool x7) rfl (ae (bq (aa h47 (aa (v:=.bool s24) rfl ?_))))))))))))))))
  obtain⟨y4,e4,e3⟩:=oB e3
  refine cv 14 (I:=fun tm H=>∃(Z9 V9:PH),Gw Z8 V8 Z9 V9∧Sat Z9 V9 H [pts b1 (.rw 0 [vi a0.Terms,vi a0.Nons,vi a0.Start,(vS d1 a0.Rules)]),pts b2 (.rw 0 [vi 0,(.slice none 0 0),(.slice none 0 0)]),pts b3 (.rw 0 [vi a0.Terms,vi a0.Nons,vi a0.Start,(vS d1 a0.Rules),(vS d4 x2),(.slice none 0 0)]),It.sl (Sh.ro Sh.B6) (vS d4 x2) y1,It.sl Sh.bool w4 x6]∧tm 1=(pV b1 0)∧tm 2=(pV b2 0)∧tm 7=(pV b3 0)∧tm 57=w4∧tm 58=(vN x6)∧tm 59=(vJ i7)∧tm 79=(.bool y4)) (fun k7=>?_) ?_
  ·rcases Bool.eq_false_or_eq_true s24 with q21|q21
   ·replace e4:=ax q21 e4
    refine aC rfl q21 (aa (v:=.bool x7) rfl (aC rfl q21 (cy rfl (aC rfl q21 (aa (v:=.bool (!x7)) rfl ?_)))))
    obtain⟨y5,e5,e4⟩:=oB e4
    refine cv 10 (I:=fun tm H=>∃(Z10 V10:PH),Gw Z8 V8 Z10 V10∧Sat Z10 V10 H [pts b1 (.rw 0 [vi a0.Terms,vi a0.Nons,vi a0.Start,(vS d1 a0.Rules)]),pts b2 (.rw 0 [vi 0,(.slice none 0 0),(.slice none 0 0)]),pts b3 (.rw 0 [vi a0.Terms,vi a0.Nons,vi a0.Start,(vS d1 a0.Rules),(vS d4 x2),(.slice none 0 0)]),It.sl (Sh.ro Sh.B6) (vS d4 x2) y1,It.sl Sh.bool w4 x6]∧tm 1=(pV b1 0)∧tm 2=(pV b2 0)∧tm 7=(pV b3 0)∧tm 57=w4∧tm 58=(vN x6)∧tm 59=(vJ i7)∧tm 65=(.bool s24)∧tm 66=(.bool x7)∧tm 67=(.bool (!x7))∧tm 68=(.bool (!x7))∧tm 78=(.bool y5)) (fun k8=>?_) ?_
    ·rcases Bool.eq_false_or_eq_true (!x7) with q22|q22
     ·replace e5:=ax q22 e5
      refine aE rfl q22 (aE rfl q22 (aE rfl q22 (aE rfl q22 (aE rfl q22 (aE rfl q22 (aE rfl q22 (aE rfl q22 (aE rfl q22 (aC rfl q21 (aY (a:=.bool true) rfl q22 rfl ?_))))))))))
      obtain rfl:=oJ e5
      exact k8 _ _ ⟨_,_,Gw.refl _ _,s25,h44,h45,h46,h48,h49,hti2,rfl,rfl,rfl,rfl,rfl⟩
     replace e5:=aS q22 e5
     refine aC rfl q22 (aa h46 (aC rfl q22 (bS rfl (aC rfl q22 (am rfl (aC rfl q22 (ak 2 s25 rfl rfl rfl rfl (aC rfl q22 (aa (v:=vJ i7) rfl (aC rfl q22 ?_))))))))))
     obtain⟨x8,q23,e5⟩:=oB e5
     refine aJ (v:=vS d4 x2) rfl rfl (s25.curS (s:=Sh.ro Sh.B6) 3 rfl) rfl q23 fun p5 q24=>aC rfl q22 (jN rfl q24 fun p6 q25=>aC rfl q22 (kg rfl (s25.curS (s:=Sh.ro Sh.B6) 3 rfl) pR rfl q24 q25 q23 rfl fun c10 h68=>?_))
     obtain⟨w5,rfl,h69⟩:=Sh.K9 h68
     refine⟨_,rfl,?_⟩
     refine aC rfl q22 (cQ rfl rfl (aC rfl q21 (aX (b:=.bool (decide (x8.Kind≠2))) rfl q22 rfl ?_)))
     obtain rfl:=oJ e5
     exact k8 _ _ ⟨_,_,Gw.refl _ _,s25,h44,h45,h46,h48,h49,hti2,rfl,rfl,rfl,rfl,rfl⟩
    intro _ H22 i8
    obtain⟨Z10,V10,g10,s28,h57,h58,h59,h60,h61,h62,h63,h64,h65,h66,h67⟩:=i8
    refine aY (a:=.bool y5) h63 q21 h67 ?_
    obtain rfl:=oJ e4
    exact k7 _ _ ⟨_,_,g10,s28,h57,h58,h59,h60,h61,h62,rfl⟩
   replace e4:=aS q21 e4
   refine aE rfl q21 (aE rfl q21 (aE rfl q21 (dx rfl (dx rfl (dx rfl (dx rfl (dx rfl (dx rfl (dx rfl (dx rfl (dx rfl (aE rfl q21 (aX (b:=.bool false) rfl q21 rfl ?_)))))))))))))
   obtain rfl:=oJ e4
   exact k7 _ _ ⟨_,_,Gw.refl _ _,s25,h44,h45,h46,h48,h49,hti2,rfl⟩
  intro _ H21 i9
  obtain⟨Z9,V9,g9,s27,h50,h51,h52,h53,h54,h55,h56⟩:=i9
  refine aa h56 (ae (aF (bq (az h55 rfl (aa (v:=vi (Pu.W ((i7:Int)+1))) rfl (ae ?_))))))
  obtain rfl:=oJ e3
  exact k6 _ _ ⟨(iv rfl (bE q18 ((s23.curS (s:=Sh.bool) 0 rfl)).bd)),_,_,(g8.trans g9),s27,h50,h51,h52,rfl,h53,h54⟩
 obtain⟨hte2,Z11,V11,g11,s29,h70,h71,h72,h73,h74,h75⟩:=jd
 refine af (ao hte2 h75 (ae (ah (bc rfl (Int.lt_irrefl _) (aR (aU (aU (bT (af (aa h72 ?_))))))))))
 obtain⟨Z12,V12,g12,s30,h76⟩:=s29.frzS 3 rfl
 replace h76:=h76.of_ro
 obtain⟨x9,q26,e⟩:=oB e
 have s31:=s30.push (aW (s:=Sh.sl Sh.C9))
 obtain⟨Z13,V13,W3,g13,u3,c11,c12,-,c14,c13⟩:=Sat.call (l1:=[pts b3 (.rw 0 [vi a0.Terms,vi a0.Nons,vi a0.Start,(vS d1 a0.Rules),(vS d4 x2),(.slice none 0 0)]),It.sl (Sh.sl Sh.C9) (.slice none 0 0) []]) (l2:=[pts b1 (.rw 0 [vi a0.Terms,vi a0.Nons,vi a0.Start,(vS d1 a0.Rules)]),pts b2 (.rw 0 [vi 0,(.slice none 0 0),(.slice none 0 0)]),It.sl Sh.bool w4 x6]) (s31.pick [3,0,1,2,4] rfl)
 refine au (mc rfl m0) (X.F6 nd.F6 (a0:=Ty.G3.mk a0 y1 []) c11 (hp1.mono ((g1.trans (g6.trans (g7.trans (g11.trans g12)))).trans g13).z) (h76.mono g13.z) q26) fun _ H24 i10=>?_
 obtain⟨w6,w7,w8,rfl,s32⟩:=i10
 have s33:=c13 _ _ s32
 obtain⟨Z14,V14,g14,s34,h77⟩:=(s33.pull 1 rfl).frzR
 obtain⟨Z15,V15,g15,s35,h78⟩:=(s34.pull 1 rfl).frzR
 refine aa h72 ?_
 obtain⟨x10,q27,e⟩:=oB e
 obtain⟨d9,rfl⟩:=((h77.mono g15.z)).val
 obtain⟨d10,rfl⟩:=(h78).val
 obtain⟨d11,rfl⟩:=((s35.curS (s:=Sh.sl Sh.C9) 1 rfl)).val
 obtain⟨Z16,V16,W4,g16,u4,c15,c16,-,c18,c17⟩:=Sat.call (l1:=[pts b3 (.rw 0 [vi x9.1.g.Terms,vi x9.1.g.Nons,vi x9.1.g.Start,(vS d9 x9.1.g.Rules),(vS d10 x9.1.of_),(vS d11 x9.1.next_)]),It.sl (Sh.sl Sh.C9) (vS d11 x9.1.next_) x9.1.next_]) (l2:=[pts b1 (.rw 0 [vi a0.Terms,vi a0.Nons,vi a0.Start,(vS d1 a0.Rules)]),pts b2 (.rw 0 [vi 0,(.slice none 0 0),(.slice none 0 0)]),It.sl Sh.bool w4 x6]) s35
 refine au (mc rfl m0) (X.F6 nd.F6 (a0:=x9.1) c15 (h77.mono (g15.trans g16).z) (h78.mono g16.z) q27) fun _ H25 i11=>?_
 obtain⟨w9,w10,w11,rfl,s36⟩:=i11
 have s37:=c17 _ _ s36
 obtain⟨Z17,V17,g17,s38,h79⟩:=(s37.pull 1 rfl).frzR
 obtain⟨Z18,V18,g18,s39,h80⟩:=(s38.pull 1 rfl).frzR
 refine aa (v:=vi x9.2) rfl (aa (v:=vi x10.2) rfl (ae (af (aa h72 (am h70 (ak 2 s39 rfl rfl rfl rfl (aa (v:=vi x9.2) rfl (aa (v:=vi x10.2) rfl ?_))))))))
 obtain⟨x11,q28,e⟩:=oB e
 obtain⟨d12,rfl⟩:=((h79.mono g18.z)).val
 obtain⟨d13,rfl⟩:=(h80).val
 obtain⟨d14,rfl⟩:=((s39.curS (s:=Sh.sl Sh.C9) 1 rfl)).val
 obtain⟨Z19,V19,W5,g19,u5,c19,c20,-,c22,c21⟩:=Sat.call (l1:=[pts b3 (.rw 0 [vi x10.1.g.Terms,vi x10.1.g.Nons,vi x10.1.g.Start,(vS d12 x10.1.g.Rules),(vS d13 x10.1.of_),(vS d14 x10.1.next_)]),It.sl (Sh.sl Sh.C9) (vS d14 x10.1.next_) x10.1.next_]) (l2:=[pts b1 (.rw 0 [vi a0.Terms,vi a0.Nons,vi a0.Start,(vS d1 a0.Rules)]),pts b2 (.rw 0 [vi 0,(.slice none 0 0),(.slice none 0 0)]),It.sl Sh.bool w4 x6]) s39
 refine au (mc rfl (mc rfl (mc rfl (mc rfl m0)))) (X.B4 nd.B4 (a0:=x10.1) c19 (h79.mono (g18.trans g19).z) (h80.mono g19.z) q28) fun _ H26 i12=>?_
 obtain⟨w12,w13,w14,rfl,s40⟩:=i12
 have s41:=c21 _ _ s40
 obtain⟨Z20,V20,g20,s42,h81⟩:=(s41.pull 1 rfl).frzR
 obtain⟨Z21,V21,g21,s43,h82⟩:=(s42.pull 1 rfl).frzR
 refine ae (ap (P:=fun tm=>tm 2=(pV b2 0)∧tm 7=(pV b3 0)∧tm 8=(.bool y3)∧tm 15=vi x9.2∧tm 16=vi x10.2∧True) ⟨h71,h72,h73,rfl,rfl,trivial⟩ ?_)
 intro _ i13
 obtain⟨h83,h84,h85,h86,h87,-⟩:=i13
 refine ah (af (aa h84 (bS rfl (am rfl ?_))))
 obtain⟨d15,rfl⟩:=((h81.mono g21.z)).val
 obtain⟨d16,rfl⟩:=(h82).val
 obtain⟨d17,rfl⟩:=((s43.curS (s:=Sh.sl Sh.C9) 1 rfl)).val
 refine ak 0 s43 rfl rfl rfl rfl (aD rfl ((s43.curS (s:=Sh.sl Sh.C9) 1 rfl)).len (cC rfl rfl (ae (aI rfl (fun q29=>?_) (fun q29=>?_)))))
 ·replace e:=ax q29 e
  refine af (bR (qs:=[]) rfl rfl (aP (us':=[vi 0,(.slice none 0 0),(.slice none 0 0)]) 3 s43 rfl h83 rfl rfl rfl rfl rfl fun H27 s44=>aa (v:=.bool false) rfl (aa (v:=vi 2) rfl (ae (aL ?_)))))
  obtain rfl:=oJ e
  exact⟨.inr rfl,_,(ra3 (rac 3 s44 rfl h83 rfl rfl) (rat rfl) (rat rfl)),_,_,rfl,((((s44.push (aW (s:=Sh.int))).push (aW (s:=sI1))).pick [1,0] rfl).weak (g1.trans (g6.trans (g7.trans (g11.trans (g12.trans (g13.trans (g14.trans (g15.trans (g16.trans (g17.trans (g18.trans (g19.trans (g20.trans g21))))))))))))) hs.zv)⟩
 replace e:=bb q29 e
 refine ar (af (aa h84 (aa h86 (aa h87 ?_))))
 obtain⟨Z22,V22,g22,s45,h88⟩:=s43.frzS 1 rfl
 obtain⟨x12,q30,e⟩:=oB e
 obtain⟨Z23,V23,W6,g23,u6,c23,c24,-,c26,c25⟩:=Sat.call (l1:=[]) s45
 refine au (mc rfl (mc rfl (mc rfl m0))) (X.B8 nd.B8 (a0:=x11) c23 (h81.mono ((g21.trans g22).trans g23).z) (h82.mono (g22.trans g23).z) (h88.mono g23.z) (c26 0 _ _ rfl) q30) fun _ H28 i14=>?_
 obtain⟨w15,w16,rfl,s46⟩:=i14
 have s47:=c25 _ _ s46
 refine aa (v:=.tuple #[(.agg #[vi x12.1.Start,w15,w16]),(.bool x12.2)]) rfl (bH rfl rfl (bH rfl rfl (bv s47 fun b5 H29 s48=>?_)))
 obtain⟨d18,rfl⟩:=((s48.curS (s:=Sh.int) 1 rfl)).val
 obtain⟨d19,rfl⟩:=((s48.curS (s:=Sh.ro sI1) 2 rfl)).val
 refine aP (us':=[vi x12.1.Start,(vS d18 x12.1.Accept),(vS d19 x12.1.Next)]) 0 s48 rfl rfl rfl rfl rfl rfl rfl fun H30 s49=>aa (v:=.bool x12.2) rfl (ae (ap (P:=fun tm=>tm 2=(pV b2 0)∧tm 8=(.bool y3)∧tm 17=(pV b5 0)∧tm 18=(.bool x12.2)∧True) ⟨h83,h85,rfl,rfl,trivial⟩ ?_))
 intro _ i15
 obtain⟨h89,h90,h91,h92,-⟩:=i15
 refine ah (af (aa h92 (cy rfl (ae (bx rfl (fun q31=>?_) (fun q31=>?_))))))
 ·replace e:=ax q31 e
  refine af (bR (qs:=[]) rfl rfl (aP (us':=[vi 0,(.slice none 0 0),(.slice none 0 0)]) 5 s49 rfl h89 rfl rfl rfl rfl rfl fun H31 s50=>aa (v:=.bool false) rfl (aa (v:=vi 2) rfl (ae (aL ?_)))))
  obtain rfl:=oJ e
  exact⟨.inr rfl,_,(ra3 (rac 5 s50 rfl h89 rfl rfl) (rat rfl) (rat rfl)),_,_,rfl,((((s50.push (aW (s:=Sh.int))).push (aW (s:=sI1))).pick [1,0] rfl).weak (g1.trans (g6.trans (g7.trans (g11.trans (g12.trans (g13.trans (g14.trans (g15.trans (g16.trans (g17.trans (g18.trans (g19.trans (g20.trans (g21.trans (g22.trans g23))))))))))))))) hs.zv)⟩
 replace e:=aS q31 e
 refine ar (af (ak 0 s49 rfl h91 rfl rfl ?_))
 obtain⟨x13,q32,e⟩:=oB e
 obtain⟨Z24,V24,W7,g24,u7,c27,c28,-,c30,c29⟩:=Sat.call (l1:=[]) s49
 refine au (mc rfl m0) (X.G0 nd.G0 c27 (c28 1 _ Sh.int _ _ rfl) (c28 2 _ (Sh.ro sI1) _ _ rfl) q32) fun _ H32 i16=>?_
 obtain⟨w17,w18,rfl,s51⟩:=i16
 have s52:=c29 _ _ s51
 refine aa (v:=.tuple #[(.agg #[vi x13.1.Start,w17,w18]),vi x13.2]) rfl (bH rfl rfl (bH rfl rfl ?_))
 obtain⟨d20,rfl⟩:=((s52.curS (s:=Sh.int) 0 rfl)).val
 obtain⟨d21,rfl⟩:=((s52.curS (s:=sI1) 1 rfl)).val
 refine aP (us':=[vi x13.1.Start,(vS d20 x13.1.Accept),(vS d21 x13.1.Next)]) 2 s52 rfl h91 rfl rfl rfl rfl rfl fun H33 s53=>aa (v:=vi x13.2) rfl (ae (af (ak 2 s53 rfl h91 rfl rfl (aa h90 (aa (v:=vi x13.2) rfl (aP (us':=[vi x13.1.Start,(vS d20 x13.1.Accept),(vS d21 x13.1.Next)]) 7 s53 rfl h89 rfl rfl rfl rfl rfl fun H34 s54=>aa (v:=.bool y3) rfl (aa (v:=vi x13.2) rfl (ae (ap (P:=fun tm=>tm 2=(pV b2 0)∧tm 3=(.bool y3)∧tm 4=vi x13.2∧True) ⟨h89,rfl,rfl,trivial⟩ ?_)))))))))
 intro _ i17
 obtain⟨h93,h94,h95,-⟩:=i17
 refine aL ?_
 obtain rfl:=oJ e
 exact⟨.inr rfl,_,(ra3 (rac 7 s54 rfl h93 rfl rfl) (rat h94) (rat h95)),_,_,rfl,((s54.pick [0,1] rfl).weak (g1.trans (g6.trans (g7.trans (g11.trans (g12.trans (g13.trans (g14.trans (g15.trans (g16.trans (g17.trans (g18.trans (g19.trans (g20.trans (g21.trans (g22.trans (g23.trans g24)))))))))))))))) hs.zv)⟩
structure Nd.J7 (T:FuncId→Option AFunc):Prop where
 own:Has T I.J7 F.J7
theorem X.J7 (nd:Nd.J7 T)(hs:Sat Z V H []){r:Ty.E8}(e:P.J7=some r):
 G T I.J7 [] H (fun rv H'=>∃(u1:Value),rv=(.agg #[vi r.Terms,vi r.Nons,vi r.Start,u1])∧Sat Z V H' [It.sl (Sh.ro Sh.E2) u1 r.Rules]):=by
 unfold P.J7 at e
 refine bB nd.own (af (bv hs fun b1 H1 s1=>ae (af (bR (qs:=[(0,1,(.bool true))]) rfl rfl (bP (s:=Sh.ro Sh.F2) (us:=[(.bool true),vi 0]) (qs:=[(0,2,(.agg #[(.bool true),vi 0]))]) (xs:=[(Ty.F2.mk true 0)]) s1 (Sh.ro_lt _) rfl rfl rfl (Els.cons (c:=[(.bool true),vi 0]) rfl Els.nil) rfl rfl fun w1 H2 s2=>?_)))))
 obtain⟨d1,rfl⟩:=((s2.curS (s:=Sh.ro Sh.F2) 0 rfl)).val
 refine bR (qs:=[(1,1,(.slice d1 [(Ty.F2.mk true 0)].length [(Ty.F2.mk true 0)].length))]) rfl rfl (bR (qs:=[(0,1,(.bool true)),(1,1,(vi 1))]) rfl rfl (bR (qs:=[]) rfl rfl (bP (s:=Sh.ro Sh.F2) (us:=[(.bool true),vi 1,(.bool false),vi 0]) (qs:=[(0,2,(.agg #[(.bool true),vi 1])),(2,2,(.agg #[(.bool false),vi 0]))]) (xs:=[(Ty.F2.mk true 1),(Ty.F2.mk false 0)]) s2 (Sh.ro_lt _) rfl rfl rfl (Els.cons (c:=[(.bool true),vi 1]) rfl (Els.cons (c:=[(.bool false),vi 0]) rfl Els.nil)) rfl rfl fun w2 H3 s3=>?_)))
 obtain⟨d2,rfl⟩:=((s3.curS (s:=Sh.ro Sh.F2) 0 rfl)).val
 refine bR (qs:=[(1,1,(.slice d2 [(Ty.F2.mk true 1),(Ty.F2.mk false 0)].length [(Ty.F2.mk true 1),(Ty.F2.mk false 0)].length))]) rfl rfl ?_
 obtain⟨Z1,V1,g1,s4,h1⟩:=s3.frzS 1 rfl
 replace h1:=h1.of_ro
 obtain⟨Z2,V2,g2,s5,h2⟩:=s4.frzS 0 rfl
 replace h2:=h2.of_ro
 refine bP (s:=Sh.ro Sh.E2) (us:=[vi 0,(.slice d1 [(Ty.F2.mk true 0)].length [(Ty.F2.mk true 0)].length),vi 0,(.slice d2 [(Ty.F2.mk true 1),(Ty.F2.mk false 0)].length [(Ty.F2.mk true 1),(Ty.F2.mk false 0)].length)]) (qs:=[(0,2,(.agg #[vi 0,(.slice d1 [(Ty.F2.mk true 0)].length [(Ty.F2.mk true 0)].length)])),(2,2,(.agg #[vi 0,(.slice d2 [(Ty.F2.mk true 1),(Ty.F2.mk false 0)].length [(Ty.F2.mk true 1),(Ty.F2.mk false 0)].length)]))]) (xs:=[(Ty.E2.mk 0 [(Ty.F2.mk true 0)]),(Ty.E2.mk 0 [(Ty.F2.mk true 1),(Ty.F2.mk false 0)])]) s5 (Sh.ro_lt _) rfl rfl rfl (Els.cons (c:=[vi 0,(.slice d1 [(Ty.F2.mk true 0)].length [(Ty.F2.mk true 0)].length)]) (Sh.L8 (x:=Ty.E2.mk 0 [(Ty.F2.mk true 0)]) (h1.mono g2.z)) (Els.cons (c:=[vi 0,(.slice d2 [(Ty.F2.mk true 1),(Ty.F2.mk false 0)].length [(Ty.F2.mk true 1),(Ty.F2.mk false 0)].length)]) (Sh.L8 (x:=Ty.E2.mk 0 [(Ty.F2.mk true 1),(Ty.F2.mk false 0)]) h2) Els.nil)) rfl rfl fun w3 H4 s6=>?_
 obtain⟨d3,rfl⟩:=((s6.curS (s:=Sh.ro Sh.E2) 0 rfl)).val
 refine bR (qs:=[(0,1,(vi 2)),(1,1,(vi 1)),(3,1,(.slice d3 [(Ty.E2.mk 0 [(Ty.F2.mk true 0)]),(Ty.E2.mk 0 [(Ty.F2.mk true 1),(Ty.F2.mk false 0)])].length [(Ty.E2.mk 0 [(Ty.F2.mk true 0)]),(Ty.E2.mk 0 [(Ty.F2.mk true 1),(Ty.F2.mk false 0)])].length))]) rfl rfl (aP (us':=[vi 2,vi 1,vi 0,(.slice d3 [(Ty.E2.mk 0 [(Ty.F2.mk true 0)]),(Ty.E2.mk 0 [(Ty.F2.mk true 1),(Ty.F2.mk false 0)])].length [(Ty.E2.mk 0 [(Ty.F2.mk true 0)]),(Ty.E2.mk 0 [(Ty.F2.mk true 1),(Ty.F2.mk false 0)])].length)]) 1 s6 rfl rfl rfl rfl rfl rfl rfl fun H5 s7=>ae (ap (P:=fun tm=>tm 0=(pV b1 0)∧True) ⟨rfl,trivial⟩ ?_))
 intro _ i1
 obtain⟨h3,-⟩:=i1
 refine aL ?_
 obtain rfl:=oJ e
 exact⟨.inr rfl,_,(arB 1 s7 rfl h3 rfl rfl),_,rfl,((s7.pick [0] rfl).weak (g1.trans g2) hs.zv)⟩
structure Nd.J3 (T:FuncId→Option AFunc):Prop where
 own:Has T I.J3 F.J3
theorem X.J3 (nd:Nd.J3 T){a0:Int}{a1:Int}(hs:Sat Z V H []){r:Int}(e:P.J3 a0 a1=some r):
 G T I.J3 [vi a0,vi a1] H (fun rv H'=>rv=vi r∧Sat Z V H' []):=by
 unfold P.J3 at e
 refine bB nd.own (af (aa (v:=vi 0) rfl (ae (af (aa (v:=vi a0) rfl (aa (v:=vi a1) rfl ?_))))))
 obtain⟨x1,q1,e⟩:=oB e
 refine o_rem rfl rfl q1 (aa (v:=vi x1) rfl (ae (ah (af (aa (v:=vi x1) rfl (ao rfl rfl (ae ?_)))))))
 obtain⟨y1,e1,e⟩:=oB e
 refine bf (I:=fun tm H=>∃(Z1 V1:PH),Gw Z V Z1 V1∧Sat Z1 V1 H []∧tm 0=vi y1) (fun k1=>?_) ?_
 ·refine aI rfl (fun q2=>?_) (fun q2=>?_)
  ·replace e1:=ax q2 e1
   refine bq (aa (v:=vi x1) rfl (aa (v:=vi a1) rfl (az rfl rfl (aa (v:=vi (Pu.W (x1+a1))) rfl (ae ?_)))))
   obtain rfl:=oJ e1
   exact k1 _ _ ⟨_,_,Gw.refl _ _,hs,rfl⟩
  replace e1:=bb q2 e1
  refine ar ?_
  obtain rfl:=oJ e1
  exact k1 _ _ ⟨_,_,Gw.refl _ _,hs,rfl⟩
 intro _ H1 i1
 obtain⟨Z1,V1,g1,s1,h1⟩:=i1
 refine af (aa h1 (aa (v:=vi y1) rfl (ae (aL ?_))))
 obtain rfl:=oJ e
 exact⟨.inr rfl,_,(ar1 rfl),rfl,(s1.weak g1 hs.zv)⟩
structure Nd.D7 (T:FuncId→Option AFunc):Prop where
 own:Has T I.D7 F.D7
 J3:Nd.J3 T
theorem X.D7 (nd:Nd.D7 T){v1:Value}{o1:Nat}{a0:Ty.K3}{a1:Int}(hs:Sat Z V H [pts o1 (.rw 0 [v1])])(hp1:RdS Sh.int Z v1 a0.l){r:(Ty.K3×Int)}(e:P.D7 a0 a1=some r):
 G T I.D7 [(pV o1 0),vi a1] H (fun rv H'=>∃(u1:Value),rv=vi r.2∧Sat Z V H' [pts o1 (.rw 0 [u1]),Sh.it (Sh.ro sI1) [u1] r.1.l]):=by
 unfold P.D7 at e
 refine bB nd.own (af (aa (v:=vi 0) rfl (ae (ah (af (aa (v:=pV o1 0) rfl (bS rfl (am rfl ?_))))))))
 obtain⟨d1,rfl⟩:=(hp1).val
 refine ak 0 hs rfl rfl rfl rfl (aD rfl (hp1).len (co rfl rfl (ae (aI rfl (fun q1=>?_) (fun q1=>?_)))))
 ·replace e:=ax q1 e
  refine af (aa (v:=vi 0) rfl (ae (aL ?_)))
  obtain rfl:=oJ e
  exact⟨.inr rfl,_,(ar1 rfl),_,rfl,((hs.push (dD (cR hp1))).pick [1,0] rfl)⟩
 replace e:=bb q1 e
 refine ar (af (aa (v:=pV o1 0) rfl (bS rfl (am rfl (ak 0 hs rfl rfl rfl rfl ?_)))))
 obtain⟨x1,q2,e⟩:=oB e
 refine aJ (v:=vS d1 a0.l) rfl rfl hp1 rfl q2 fun p1 q3=>cj rfl hp1 hs.z q3 q2 (aa (v:=vi x1) rfl (ae (ap (P:=fun tm=>tm 0=(pV o1 0)∧tm 1=vi a1∧tm 5=vi x1∧True) ⟨rfl,rfl,rfl,trivial⟩ ?_)))
 intro _ i1
 obtain⟨h1,h2,h3,-⟩:=i1
 refine af (aa h1 (aa h1 (bS rfl (am rfl (ak 0 hs rfl rfl rfl rfl ?_)))))
 obtain⟨x2,q4,e⟩:=oB e
 refine jS rfl rfl hp1 hs.z rfl q4 fun w1 h4=>bS rfl (am rfl ?_)
 obtain⟨d2,rfl⟩:=(h4).val
 refine aP (us':=[(vS d2 x2)]) 0 hs rfl rfl rfl rfl rfl rfl rfl fun H1 s1=>ae (af (aa h3 (aa h2 ?_)))
 obtain⟨x3,q5,e⟩:=oB e
 obtain⟨Z1,V1,W1,g1,u1,c1,c2,-,c4,c3⟩:=Sat.call (l1:=[]) s1
 refine au (mc rfl (mc rfl m0)) (X.J3 nd.J3 c1 q5) fun _ H2 i2=>?_
 obtain⟨rfl,s2⟩:=i2
 have s3:=c3 _ _ s2
 refine aa (v:=vi x3) rfl (ae (ap (P:=fun tm=>tm 4=vi x3∧True) ⟨rfl,trivial⟩ ?_))
 intro _ i3
 obtain⟨h5,-⟩:=i3
 refine aL ?_
 obtain rfl:=oJ e
 exact⟨.inr rfl,_,(ar1 h5),_,rfl,(((s3.push (dD (cR (h4.mono g1.z)))).pick [1,0] rfl).weak g1 hs.zv)⟩
structure Nd.F5 (T:FuncId→Option AFunc):Prop where
 own:Has T I.F5 F.F5
 D7:Nd.D7 T
theorem X.F5 (nd:Nd.F5 T){v1:Value}{a0:(List Int)}(hs:Sat Z V H [])(hp1:RdS Sh.int Z v1 a0){r:Ty.J5}(e:P.F5 a0=some r):
 G T I.F5 [v1] H (fun rv H'=>∃(u1:Value) (u2:Value),rv=(.agg #[vi r.Start,u1,u2])∧Sat Z V H' [It.sl Sh.int u1 r.Accept,It.sl sI1 u2 r.Next]):=by
 unfold P.F5 at e
 refine bB nd.own (af (bv hs fun b1 H1 s1=>ae (af (aa (v:=v1) rfl ?_))))
 obtain⟨d1,rfl⟩:=(hp1).val
 refine bR (qs:=[(0,1,(vS d1 a0))]) rfl rfl (cx s1 rfl rfl fun b2 H2 s2=>aa (v:=pV b2 0) rfl (ae (af (aa (v:=pV b2 0) rfl ?_))))
 obtain⟨x1,q1,e⟩:=oB e
 obtain⟨Z1,V1,W1,g1,u1,c1,c2,-,c4,c3⟩:=Sat.call (l1:=[pts b2 (.rw 0 [(vS d1 a0)])]) (l2:=[pts b1 (.rw 0 [vi 0,(.slice none 0 0),(.slice none 0 0)])]) s2
 refine au (mc rfl (mc rfl m0)) (X.D7 nd.D7 (a0:=Ty.K3.mk a0) c1 (hp1.mono g1.z) q1) fun _ H3 i1=>?_
 obtain⟨w1,rfl,s3⟩:=i1
 have s4:=c3 _ _ s3
 obtain⟨Z2,V2,g2,s5,h1⟩:=(s4.pull 1 rfl).frzR
 refine az rfl rfl (aa (v:=pV b2 0) rfl ?_)
 obtain⟨x2,q2,e⟩:=oB e
 obtain⟨d2,rfl⟩:=(h1).val
 obtain⟨Z3,V3,W2,g3,u2,c5,c6,-,c8,c7⟩:=Sat.call (l1:=[pts b2 (.rw 0 [(vS d2 x1.1.l)])]) (l2:=[pts b1 (.rw 0 [vi 0,(.slice none 0 0),(.slice none 0 0)])]) s5
 refine au (mc rfl (mc rfl m0)) (X.D7 nd.D7 (a0:=x1.1) c5 (h1.mono g3.z) q2) fun _ H4 i2=>?_
 obtain⟨w2,rfl,s6⟩:=i2
 have s7:=c7 _ _ s6
 obtain⟨Z4,V4,g4,s8,h2⟩:=(s7.pull 1 rfl).frzR
 refine az rfl rfl (aa (v:=vi (Pu.W (1+x1.2))) rfl (aa (v:=vi (Pu.W (1+x2.2))) rfl (ae (ap (P:=fun tm=>tm 2=(pV b1 0)∧tm 3=(pV b2 0)∧tm 4=(vi (Pu.W (1+x1.2)))∧tm 5=(vi (Pu.W (1+x2.2)))∧True) ⟨rfl,rfl,rfl,rfl,trivial⟩ ?_))))
 intro _ i3
 obtain⟨h3,h4,h5,h6,-⟩:=i3
 refine af (aa h4 (aa h5 ?_))
 obtain⟨x3,q3,e⟩:=oB e
 obtain⟨d3,rfl⟩:=(h2).val
 obtain⟨Z5,V5,W3,g5,u3,c9,c10,-,c12,c11⟩:=Sat.call (l1:=[pts b2 (.rw 0 [(vS d3 x2.1.l)])]) (l2:=[pts b1 (.rw 0 [vi 0,(.slice none 0 0),(.slice none 0 0)])]) s8
 refine au (mc rfl (mc rfl m0)) (X.D7 nd.D7 (a0:=x2.1) c9 (h2.mono g5.z) q3) fun _ H5 i4=>?_
 obtain⟨w3,rfl,s9⟩:=i4
 have s10:=c11 _ _ s9
 obtain⟨Z6,V6,g6,s11,h7⟩:=(s10.pull 1 rfl).frzR
 refine bR (qs:=[(0,1,(vi x3.2))]) rfl rfl (bv s11 fun b3 H6 s12=>aP (us':=[vi x3.2,(.slice none 0 0),(.slice none 0 0)]) 0 s12 rfl rfl rfl rfl rfl rfl rfl fun H7 s13=>ae (ah (af (aa h5 (aa (v:=vi 0) rfl (ae ?_))))))
 obtain⟨x5,q6,e⟩:=oB e
 obtain⟨rfl,q8⟩:=bp q6
 obtain⟨y1,q9,e⟩:=oB e
 refine ay (aV (xs:=Pu.ran (Pu.W (1+x1.2))) (fun(i5:Nat) (s14:((List Int)×(List Int)×(List (List Int)))) tm H=>tm 22=vi i5∧∃(Z7 V7:PH) (w4:Value) (w5:Value) (w6:Value),Gw Z6 V6 Z7 V7∧Sat Z7 V7 H [pts b1 (.rw 0 [vi 0,(.slice none 0 0),(.slice none 0 0)]),pts b2 (.rw 0 [w6]),pts b3 (.rw 0 [vi x3.2,w4,w5]),It.sl Sh.int w4 s14.2.1,It.sl sI1 w5 s14.2.2]∧tm 2=(pV b1 0)∧tm 3=(pV b2 0)∧tm 4=(vi (Pu.W (1+x1.2)))∧tm 5=(vi (Pu.W (1+x2.2)))∧tm 6=(pV b3 0)∧tm 21=(vi (Pu.W (1+x1.2)))∧RdS Sh.int Z7 w6 s14.1) (fun i5 x4 s14 s16 tm H9 q4 q5 j1 e1 k1=>?_) (fun tm H8 jd=>?_) q9 ⟨rfl,_,_,_,_,_,Gw.refl _ _,(((s13.push (aW (s:=Sh.int))).push (aW (s:=sI1))).pick [4,3,2,1,0] rfl),h3,h4,h5,h6,rfl,rfl,h7⟩)
 ·obtain⟨hti0,Z7,V7,w4,w5,w6,g7,s15,h9,h10,h11,h12,h13,h14,h8⟩:=j1
  unfold P.F5.b0 at e1
  have hti0:=iv hti0 (cD q4).symm
  refine af (ao hti0 h14 (ae (ah (be rfl (cf q4) (ar (ah (ay (ah (aA s15 fun n1 H10 s17 q10 d4=>bt h13 ?_)))))))))
  obtain⟨d5,rfl⟩:=((s17.curS (s:=Sh.int) 3 rfl)).val
  obtain⟨d6,rfl⟩:=((s17.curS (s:=sI1) 4 rfl)).val
  refine aZ (q10 _ _ (an.2 ⟨s17.curB 2 rfl,by simp⟩)) 2 s17 rfl rfl rfl rfl (aj h10 ?_)
  obtain⟨x6,q11,e1⟩:=oB e1
  obtain⟨d7,rfl⟩:=(h8).val
  obtain⟨Z8,V8,W4,g8,u4,c13,c14,-,c16,c15⟩:=Sat.call (l1:=[pts b2 (.rw 0 [(vS d7 s14.1)])]) (l2:=[pts b1 (.rw 0 [vi 0,(.slice none 0 0),(.slice none 0 0)]),pts b3 (.rw 0 [vi x3.2,(vS d5 s14.2.1),(vS d6 s14.2.2)]),Is Sh.int d5 s14.2.1,Is sI1 d6 s14.2.2]) (s17.pick [1,0,2,3,4] rfl)
  refine bK (mc rfl (mc rfl m0)) (X.D7 nd.D7 (a0:=Ty.K3.mk s14.1) c13 (h8.mono g8.z) q11) fun _ H11 i6 k2=>?_
  have d8:=d4.keep k2
  obtain⟨w7,rfl,s18⟩:=i6
  have s19:=c15 _ _ s18
  obtain⟨Z9,V9,g9,s20,h15⟩:=(s19.pull 1 rfl).frzR
  refine df rfl rfl (fE (s:=Sh.int) (us:=[(vi (Pu.W (x6.2-1)))]) (qs:=[(0,1,(vi (Pu.W (x6.2-1))))]) (xs:=[(Pu.W (x6.2-1))]) (d8.get 5 rfl rfl) s20 Sh.G5 rfl rfl rfl (Els.cons (c:=[(vi (Pu.W (x6.2-1)))]) rfl Els.nil) rfl rfl fun w8 H12 s21 k3=>?_)
  have d9:=d8.next 5 rfl k3
  obtain⟨x7,q12,e1⟩:=oB e1
  refine fD 4 s21 rfl Sh.G5 rfl rfl rfl rfl (s21.curS (s:=Sh.int) 0 rfl) pR (fun h=>h) (by decide) q12 fun w9 H13 s22 k4=>?_
  have d10:=d9.keep k4
  refine bt h13 ?_
  obtain⟨d11,rfl⟩:=((s22.curS (s:=Sh.int) 4 rfl)).val
  refine eC (us':=[vi x3.2,(vS d11 x7),(vS d6 s14.2.2)]) 3 s22 rfl rfl rfl rfl rfl rfl rfl fun H14 s23 k5=>?_
  have d12:=d10.keep k5
  refine aQ (cV rfl (ta8 (tre (trl tr0))) (ta4 (ta2 (tre (tl2 (trl tr0))))) (ta4 (tra (tre (tl4 tr0)))) (bZ (w:=vS d5 s14.2.1) ek rfl (bG 2 s17 rfl rfl rfl) (bG 2 s17 rfl rfl rfl) (by simp [vsame,vsame1])) (bZ (w:=vS d5 s14.2.1) ek rfl (bG 2 s17 rfl rfl rfl) (bG 2 s20 rfl rfl rfl) (by simp [vsame,vsame1])) aK) (af (aa (v:=.slice none 0 0) rfl (ae (ap (P:=fun tm=>tm 2=(pV b1 0)∧tm 3=(pV b2 0)∧tm 4=(vi (Pu.W (1+x1.2)))∧tm 5=(vi (Pu.W (1+x2.2)))∧tm 6=(pV b3 0)∧tm 7=(.slice none 0 0)∧tm 21=(vi (Pu.W (1+x1.2)))∧tm 22=vi x4∧True) ⟨h9,h10,h11,h12,h13,rfl,h14,hti0,trivial⟩ ?_))))
  intro _ i7
  obtain⟨h16,h17,h18,h19,h20,h21,h22,h23,-⟩:=i7
  refine ah (af (aa h19 (aa (v:=vi 0) rfl (ae ?_))))
  obtain⟨x9,q15,e1⟩:=oB e1
  obtain⟨rfl,q17⟩:=bp q15
  obtain⟨y2,q18,e1⟩:=oB e1
  refine ay (aV (xs:=Pu.ran (Pu.W (1+x2.2))) (fun(i8:Nat) (s24:((List Int)×(List Int))) tm H=>tm 33=vi i8∧∃(Z10 V10:PH) (w10:Value) (w11:Value),Gw Z9 V9 Z10 V10∧Sat Z10 V10 H [pts b1 (.rw 0 [vi 0,(.slice none 0 0),(.slice none 0 0)]),pts b2 (.rw 0 [w11]),pts b3 (.rw 0 [vi x3.2,(vS d11 x7),(vS d6 s14.2.2)]),Is Sh.int d11 x7,Is sI1 d6 s14.2.2,It.sl Sh.int w10 s24.2]∧tm 2=(pV b1 0)∧tm 3=(pV b2 0)∧tm 4=(vi (Pu.W (1+x1.2)))∧tm 5=(vi (Pu.W (1+x2.2)))∧tm 6=(pV b3 0)∧tm 7=w10∧tm 21=(vi (Pu.W (1+x1.2)))∧tm 22=vi x4∧tm 32=(vi (Pu.W (1+x2.2)))∧RdS Sh.int Z10 w11 s24.1) (fun i8 x8 s24 s26 tm H16 q13 q14 j2 e2 k6=>?_) (fun tm H15 jd=>?_) q18 ⟨rfl,_,_,_,_,Gw.refl _ _,((s23.push (aW (s:=Sh.int))).pick [3,2,4,5,6,0] rfl),h16,h17,h18,h19,h20,h21,h22,h23,rfl,h15⟩)
  ·obtain⟨hti1,Z10,V10,w10,w11,g10,s25,h25,h26,h27,h28,h29,h30,h31,h32,h33,h24⟩:=j2
   unfold P.F5.b1 at e2
   have hti1:=iv hti1 (cD q13).symm
   refine af (ao hti1 h33 (ae (ah (be rfl (cf q13) (ar (ah (ay (bq (aa h30 (aa h26 (aa h27 (az rfl rfl ?_))))))))))))
   obtain⟨x10,q19,e2⟩:=oB e2
   obtain⟨d13,rfl⟩:=(h24).val
   obtain⟨Z11,V11,W5,g11,u5,c17,c18,-,c20,c19⟩:=Sat.call (l1:=[pts b2 (.rw 0 [(vS d13 s24.1)])]) (l2:=[pts b1 (.rw 0 [vi 0,(.slice none 0 0),(.slice none 0 0)]),pts b3 (.rw 0 [vi x3.2,(vS d11 x7),(vS d6 s14.2.2)]),Is Sh.int d11 x7,Is sI1 d6 s14.2.2,It.sl Sh.int w10 s24.2]) (s25.pick [1,0,2,3,4,5] rfl)
   refine au (mc rfl (mc rfl m0)) (X.D7 nd.D7 (a0:=Ty.K3.mk s24.1) c17 (h24.mono g11.z) q19) fun _ H17 i9=>?_
   obtain⟨w12,rfl,s27⟩:=i9
   have s28:=c19 _ _ s27
   obtain⟨Z12,V12,g12,s29,h34⟩:=(s28.pull 1 rfl).frzR
   refine bz rfl rfl (bP (s:=Sh.int) (us:=[(vi (Pu.W (x10.2-1)))]) (qs:=[(0,1,(vi (Pu.W (x10.2-1))))]) (xs:=[(Pu.W (x10.2-1))]) s29 Sh.G5 rfl rfl rfl (Els.cons (c:=[(vi (Pu.W (x10.2-1)))]) rfl Els.nil) rfl rfl fun w13 H18 s30=>?_)
   obtain⟨x11,q20,e2⟩:=oB e2
   refine cn 6 s30 rfl Sh.G5 rfl rfl rfl rfl (s30.curS (s:=Sh.int) 0 rfl) pR (fun h=>h) (by decide) q20 fun w14 H19 s31=>aa (v:=w14) rfl (ae (aF (bq (az hti1 rfl (aa (v:=vi (Pu.W (x8+1))) rfl (ae ?_))))))
   obtain rfl:=oJ e2
   exact k6 _ _ ⟨(iv rfl (bU q13 q17)),_,_,_,_,(g10.trans (g11.trans g12)),(s31.pick [2,1,3,4,5,6] rfl),h25,h26,h27,h28,h29,rfl,h31,h32,h33,h34⟩
  obtain⟨hte1,Z13,V13,w15,w16,g13,s32,h36,h37,h38,h39,h40,h41,h42,h43,h44,h35⟩:=jd
  refine af (ao hte1 h44 (ae (ah (bc rfl (bA _) (aR (aU (aU (bT (bq (am h40 (ak 2 s32 rfl rfl rfl rfl (aa h41 ?_))))))))))))
  have s33:=s32.pull 5 rfl
  refine gI s33 rfl fun w17 H21 s34=>?_
  obtain⟨x12,q21,e1⟩:=oB e1
  refine gH 4 s34 rfl rfl rfl (by decide) q21 (List.cons_ne_nil _ _) fun w18 H22 s35=>am h40 ?_
  obtain⟨d14,rfl⟩:=((s35.curS (s:=sI1) 4 rfl)).val
  refine aP (us':=[vi x3.2,(vS d11 x7),(vS d14 x12)]) 2 s35 rfl rfl rfl rfl rfl rfl rfl fun H23 s36=>ae (aF (bq (az h43 rfl (aa (v:=vi (Pu.W (x4+1))) rfl (ae ?_)))))
  obtain rfl:=oJ e1
  exact k1 _ _ ⟨(iv rfl (bU q4 q8)),_,_,_,_,_,(g7.trans (g8.trans (g9.trans g13))),s36,h36,h37,h38,h39,h40,h42,h35⟩
 obtain⟨hte0,Z14,V14,w19,w20,w21,g14,s37,h46,h47,h48,h49,h50,h51,h45⟩:=jd
 refine af (ao hte0 h51 (ae (ah (bc rfl (bA _) (aR (aU (aU (bT (af ?_)))))))))
 obtain⟨d15,rfl⟩:=((s37.curS (s:=Sh.int) 3 rfl)).val
 obtain⟨d16,rfl⟩:=((s37.curS (s:=sI1) 4 rfl)).val
 refine ak 2 s37 rfl h50 rfl rfl (aP (us':=[vi x3.2,(vS d15 y1.2.1),(vS d16 y1.2.2)]) 0 s37 rfl h46 rfl rfl rfl rfl rfl fun H25 s38=>ae (aL ?_))
 obtain rfl:=oJ e
 exact⟨.inr rfl,_,(arB 0 s38 rfl h46 rfl rfl),_,_,rfl,((s38.pick [3,4] rfl).weak (g1.trans (g2.trans (g3.trans (g4.trans (g5.trans (g6.trans g14)))))) hs.zv)⟩
structure Nd.D2 (T:FuncId→Option AFunc):Prop where
 own:Has T I.D2 F.D2
 D8:Nd.D8 T
 E1:Nd.E1 T
theorem X.D2 (nd:Nd.D2 T){v1:Value}{v2:Value}{a0:Ty.J5}(hs:Sat Z V H [])(hp1:RdS Sh.int V v1 a0.Accept)(hp2:RdS sI1 V v2 a0.Next){r:(Ty.E8×Int)}(e:P.D2 a0=some r):
 G T I.D2 [(.agg #[vi a0.Start,v1,v2])] H (fun rv H'=>∃(u1:Value),rv=(.tuple #[(.agg #[vi r.1.Terms,vi r.1.Nons,vi r.1.Start,u1]),vi r.2])∧Sat Z V H' [It.sl (Sh.ro Sh.E2) u1 r.1.Rules]):=by
 unfold P.D2 at e
 refine bB nd.own (af ?_)
 obtain⟨d1,rfl⟩:=(hp1).val
 obtain⟨d2,rfl⟩:=(hp2).val
 refine cx hs rfl rfl fun b1 H1 s1=>bv s1 fun b2 H2 s2=>aa (v:=vi 0) rfl (ae (ah (af (ak 1 s2 rfl rfl rfl rfl ?_))))
 obtain⟨x1,q1,e⟩:=oB e
 obtain⟨Z1,V1,W1,g1,u1,c1,c2,-,c4,c3⟩:=Sat.call (l1:=[]) s2
 refine au (mc rfl m0) (X.D8 nd.D8 c1 (hp1.mono (g1.v.trans u1)) (hp2.mono (g1.v.trans u1)) q1) fun _ H3 i1=>?_
 obtain⟨rfl,s3⟩:=i1
 have s4:=c3 _ _ s3
 refine aa (v:=vi x1) rfl (ae (af (aa (v:=vi x1) rfl (cQ rfl rfl (ae (aI rfl (fun q2=>?_) (fun q2=>?_)))))))
 ·replace e:=ax q2 e
  refine af (bR (qs:=[]) rfl rfl (aa (v:=vi x1) rfl (aP (us':=[vi 0,vi 0,vi 0,(.slice none 0 0)]) 0 s4 rfl rfl rfl rfl rfl rfl rfl fun H4 s5=>aa (v:=vi x1) rfl (ae (ap (P:=fun tm=>tm 2=(pV b2 0)∧tm 3=vi x1∧True) ⟨rfl,rfl,trivial⟩ ?_)))))
  intro _ i2
  obtain⟨h1,h2,-⟩:=i2
  refine aL ?_
  obtain rfl:=oJ e
  exact⟨.inr rfl,_,(ra2 (rac 0 s5 rfl h1 rfl rfl) (rat h2)),_,rfl,(((s5.push (aW (s:=Sh.ro Sh.E2))).pick [0] rfl).weak g1 hs.zv)⟩
 replace e:=bb q2 e
 refine ar (ah (af (am rfl (ak 1 s4 rfl rfl rfl rfl (aD rfl ((hp1.mono g1.v)).len (cC rfl rfl (aa (v:=.bool (decide (10<(a0.Accept.length:Int)))) rfl ?_)))))))
 obtain⟨y1,e1,e⟩:=oB e
 refine cv 7 (I:=fun tm H=>∃(Z2 V2:PH),Gw Z1 V1 Z2 V2∧Sat Z2 V2 H [pts b1 (.rw 0 [vi a0.Start,(vS d1 a0.Accept),(vS d2 a0.Next)]),pts b2 (.rw 0 [vi 0,vi 0,vi 0,(.slice none 0 0)])]∧tm 1=(pV b1 0)∧tm 2=(pV b2 0)∧tm 28=(.bool y1)) (fun k1=>?_) ?_
 ·rcases Bool.eq_false_or_eq_true (decide (10<(a0.Accept.length:Int))) with q3|q3
  ·replace e1:=ax q3 e1
   refine aE rfl q3 (aE rfl q3 (aE rfl q3 (aE rfl q3 (aE rfl q3 (aE rfl q3 (aY (a:=.bool true) rfl q3 rfl ?_))))))
   obtain rfl:=oJ e1
   exact k1 _ _ ⟨_,_,Gw.refl _ _,(s4.pick [1,0] rfl),rfl,rfl,rfl⟩
  replace e1:=aS q3 e1
  refine aC rfl q3 (am rfl (aC rfl q3 (ak 1 s4 rfl rfl rfl rfl (aC rfl q3 ?_))))
  obtain⟨x2,q4,e1⟩:=oB e1
  refine aJ (v:=vS d2 a0.Next) rfl rfl (hp2.mono g1.v) rfl q4 fun p1 q5=>aC rfl q3 (dh rfl (hp2.mono g1.v) s4.v q5 q4 fun w1 h6=>aC rfl q3 (aD rfl (h6).len (aC rfl q3 (cC rfl rfl (aX (b:=.bool (decide (8<(x2.length:Int)))) rfl q3 rfl ?_)))))
  obtain rfl:=oJ e1
  exact k1 _ _ ⟨_,_,Gw.refl _ _,(s4.pick [1,0] rfl),rfl,rfl,rfl⟩
 intro _ H5 i3
 obtain⟨Z2,V2,g2,s6,h3,h4,h5⟩:=i3
 refine ae (bx h5 (fun q6=>?_) (fun q6=>?_))
 ·replace e:=ax q6 e
  refine af (bR (qs:=[]) rfl rfl (aP (us':=[vi 0,vi 0,vi 0,(.slice none 0 0)]) 1 s6 rfl h4 rfl rfl rfl rfl rfl fun H6 s7=>aa (v:=vi 2) rfl (ae (aL ?_))))
  obtain rfl:=oJ e
  exact⟨.inr rfl,_,(ra2 (rac 1 s7 rfl h4 rfl rfl) (rat rfl)),_,rfl,(((s7.push (aW (s:=Sh.ro Sh.E2))).pick [0] rfl).weak (g1.trans g2) hs.zv)⟩
 replace e:=aS q6 e
 refine ar (ah (aA s6 fun n1 H7 s8 q7 d3=>bt h3 (aZ (q7 _ _ (an.2 ⟨s8.curB 0 rfl,by simp⟩)) 0 s8 rfl rfl rfl rfl ?_)))
 obtain⟨x3,q8,e⟩:=oB e
 refine aq (v:=vS d2 a0.Next) rfl rfl (hp2.mono (g1.trans g2).v) rfl q8 fun p2 q9=>iO (RdS.low (hp2.mono (g1.trans g2).v) s8.v q7) rfl hp2 ((g1.trans g2).v.trans s8.v) q9 q8 fun w2 h7=>dI rfl ((h7.mono (g1.trans g2).v)).len (bt h3 (aZ (q7 _ _ (an.2 ⟨s8.curB 0 rfl,by simp⟩)) 0 s8 rfl rfl rfl rfl (dI rfl ((hp1.mono (g1.trans g2).v)).len (bt h3 (aZ (q7 _ _ (an.2 ⟨s8.curB 0 rfl,by simp⟩)) 0 s8 rfl rfl rfl rfl (hJ (qs:=[(0,1,(vN x3)),(1,1,(vN a0.Accept)),(2,1,(vi a0.Start))]) rfl rfl (kb (d3.get 11 rfl rfl) s8 fun b3 H8 s9 k2=>?_)))))))
 have d4:=d3.next 11 rfl k2
 refine eC (us':=[(vN x3),(vN a0.Accept),vi a0.Start,(.slice none 0 0)]) 0 s9 rfl rfl rfl rfl rfl rfl rfl fun H9 s10 k3=>?_
 have d5:=d4.keep k3
 refine aQ aK (ap (P:=fun tm=>tm 1=(pV b1 0)∧tm 2=(pV b2 0)∧tm 5=(pV b3 0)∧True) ⟨h3,h4,rfl,trivial⟩ ?_)
 intro _ i4
 obtain⟨h8,h9,h10,-⟩:=i4
 refine ah (af (am h8 (ak 1 s10 rfl rfl rfl rfl (aD rfl ((hp2.mono (g1.trans g2).v)).len (aa (v:=vi 0) rfl (ae ?_))))))
 obtain⟨y2,q12,e⟩:=oB e
 refine ay (aV (xs:=a0.Next) (fun(i5:Nat) (s11:(List Ty.E2)) tm H=>tm 44=vi i5∧∃(Z3 V3:PH) (w3:Value),Gw Z2 V2 Z3 V3∧Sat Z3 V3 H [pts b1 (.rw 0 [vi a0.Start,(vS d1 a0.Accept),(vS d2 a0.Next)]),pts b2 (.rw 0 [vi 0,vi 0,vi 0,(.slice none 0 0)]),pts b3 (.rw 0 [(vN x3),(vN a0.Accept),vi a0.Start,w3]),It.sl (Sh.ro Sh.E2) w3 s11]∧tm 1=(pV b1 0)∧tm 2=(pV b2 0)∧tm 5=(pV b3 0)∧tm 42=(vS d2 a0.Next)∧tm 43=(vN a0.Next)) (fun i5 x4 s11 s13 tm H11 q10 q11 j1 e2 k4=>?_) (fun tm H10 jd=>?_) q12 ⟨rfl,_,_,_,Gw.refl _ _,((s10.push (aW (s:=Sh.ro Sh.E2))).pick [2,3,1,0] rfl),h8,h9,h10,rfl,rfl⟩)
 ·obtain⟨hti0,Z3,V3,w3,g3,s12,h11,h12,h13,h14,h15⟩:=j1
  unfold P.D2.b0 at e2
  refine af (ao hti0 h15 (ae (ah (be rfl (Int.ofNat_lt.2 q11) (ar (ah (ay (af (aa hti0 (aJ (v:=vS d2 a0.Next) h14 hti0 (hp2.mono (g1.trans (g2.trans g3)).v) rfl (Pu.ix_nat.trans q10) fun p3 q13=>dh rfl (hp2.mono (g1.trans (g2.trans g3)).v) s12.v q13 (Pu.ix_nat.trans q10) fun w4 h16=>aa (v:=vJ i5) rfl (aa (v:=w4) rfl (ae (ah (af (aa (v:=w4) rfl (aD rfl (h16).len (aa (v:=vi 0) rfl (ae ?_))))))))))))))))))
  obtain⟨y3,q16,e2⟩:=oB e2
  refine ay (aV (xs:=x4) (fun(i6:Nat) (s14:(List Ty.E2)) tm H=>tm 51=vi i6∧∃(Z4 V4:PH) (w5:Value),Gw Z3 V3 Z4 V4∧Sat Z4 V4 H [pts b1 (.rw 0 [vi a0.Start,(vS d1 a0.Accept),(vS d2 a0.Next)]),pts b2 (.rw 0 [vi 0,vi 0,vi 0,(.slice none 0 0)]),pts b3 (.rw 0 [(vN x3),(vN a0.Accept),vi a0.Start,w5]),It.sl (Sh.ro Sh.E2) w5 s14]∧tm 1=(pV b1 0)∧tm 2=(pV b2 0)∧tm 5=(pV b3 0)∧tm 6=(vJ i5)∧tm 42=(vS d2 a0.Next)∧tm 43=(vN a0.Next)∧tm 44=(vJ i5)∧tm 49=w4∧tm 50=(vN x4)) (fun i6 x5 s14 s16 tm H13 q14 q15 j2 e3 k5=>?_) (fun tm H12 jd=>?_) q16 ⟨rfl,_,_,_,Gw.refl _ _,s12,h11,h12,h13,rfl,h14,h15,hti0,rfl,rfl⟩)
  ·obtain⟨hti1,Z4,V4,w5,g4,s15,h17,h18,h19,h20,h21,h22,h23,h24,h25⟩:=j2
   unfold P.D2.b1 at e3
   refine af (ao hti1 h25 (ae (ah (be rfl (Int.ofNat_lt.2 q15) (ar (ah (ay (af (aa hti1 (aJ (v:=w4) h24 hti1 (h16.mono g4.v) rfl (Pu.ix_nat.trans q14) fun p4 q17=>cj rfl (h16.mono g4.v) s15.v q17 (Pu.ix_nat.trans q14) (aa (v:=vJ i6) rfl (aa (v:=vi x5) rfl (ae (af (aa (v:=vi x5) rfl (cd rfl rfl (ae ?_)))))))))))))))))
   obtain⟨y4,e4,e3⟩:=oB e3
   refine bf (I:=fun tm H=>∃(Z5 V5:PH) (w6:Value),Gw Z4 V4 Z5 V5∧Sat Z5 V5 H [pts b1 (.rw 0 [vi a0.Start,(vS d1 a0.Accept),(vS d2 a0.Next)]),pts b2 (.rw 0 [vi 0,vi 0,vi 0,(.slice none 0 0)]),pts b3 (.rw 0 [(vN x3),(vN a0.Accept),vi a0.Start,w6]),It.sl (Sh.ro Sh.E2) w6 y4]∧tm 1=(pV b1 0)∧tm 2=(pV b2 0)∧tm 5=(pV b3 0)∧tm 6=(vJ i5)∧tm 42=(vS d2 a0.Next)∧tm 43=(vN a0.Next)∧tm 44=(vJ i5)∧tm 49=w4∧tm 50=(vN x4)∧tm 51=(vJ i6)) (fun k6=>?_) ?_
   ·refine aI rfl (fun q18=>?_) (fun q18=>?_)
    ·replace e4:=ax q18 e4
     refine bq (am h19 ?_)
     obtain⟨d6,rfl⟩:=((s15.curS (s:=Sh.ro Sh.E2) 3 rfl)).val
     refine ak 2 s15 rfl rfl rfl rfl (aa h20 (aa (v:=vJ i6) rfl (bR (qs:=[(0,1,(.bool true)),(1,1,(vJ i6))]) rfl rfl (aa (v:=vi x5) rfl (bR (qs:=[(1,1,(vi x5))]) rfl rfl (bP (s:=Sh.ro Sh.F2) (us:=[(.bool true),(vJ i6),(.bool false),vi x5]) (qs:=[(0,2,(.agg #[(.bool true),(vJ i6)])),(2,2,(.agg #[(.bool false),vi x5]))]) (xs:=[(Ty.F2.mk true (i6:Int)),(Ty.F2.mk false x5)]) s15 (Sh.ro_lt _) rfl rfl rfl (Els.cons (c:=[(.bool true),(vJ i6)]) rfl (Els.cons (c:=[(.bool false),vi x5]) rfl Els.nil)) rfl rfl fun w7 H15 s18=>?_))))))
     obtain⟨d7,rfl⟩:=((s18.curS (s:=Sh.ro Sh.F2) 0 rfl)).val
     refine bR (qs:=[(0,1,(vJ i5)),(1,1,(.slice d7 [(Ty.F2.mk true (i6:Int)),(Ty.F2.mk false x5)].length [(Ty.F2.mk true (i6:Int)),(Ty.F2.mk false x5)].length))]) rfl rfl ?_
     obtain⟨Z6,V6,g6,s19,h36⟩:=s18.frzS 0 rfl
     replace h36:=h36.of_ro
     refine bP (s:=Sh.ro Sh.E2) (us:=[(vJ i5),(.slice d7 [(Ty.F2.mk true (i6:Int)),(Ty.F2.mk false x5)].length [(Ty.F2.mk true (i6:Int)),(Ty.F2.mk false x5)].length)]) (qs:=[(0,2,(.agg #[(vJ i5),(.slice d7 [(Ty.F2.mk true (i6:Int)),(Ty.F2.mk false x5)].length [(Ty.F2.mk true (i6:Int)),(Ty.F2.mk false x5)].length)]))]) (xs:=[(Ty.E2.mk (i5:Int) [(Ty.F2.mk true (i6:Int)),(Ty.F2.mk false x5)])]) s19 (Sh.ro_lt _) rfl rfl rfl (Els.cons (c:=[(vJ i5),(.slice d7 [(Ty.F2.mk true (i6:Int)),(Ty.F2.mk false x5)].length [(Ty.F2.mk true (i6:Int)),(Ty.F2.mk false x5)].length)]) (Sh.L8 (x:=Ty.E2.mk (i5:Int) [(Ty.F2.mk true (i6:Int)),(Ty.F2.mk false x5)]) h36) Els.nil) rfl rfl fun w8 H16 s20=>?_
     obtain⟨Z7,V7,g7,s21,h37⟩:=s20.frzS 0 rfl
     replace h37:=h37.of_ro
     obtain⟨x6,q19,e4⟩:=oB e4
     refine cn 3 s21 rfl (Sh.ro_lt _) rfl rfl rfl rfl h37 s21.z (fun h=>h) (by decide) q19 fun w9 H17 s22=>am h19 ?_
     obtain⟨d8,rfl⟩:=((s22.curS (s:=Sh.ro Sh.E2) 3 rfl)).val
     refine aP (us':=[(vN x3),(vN a0.Accept),vi a0.Start,(vS d8 x6)]) 2 s22 rfl rfl rfl rfl rfl rfl rfl fun H18 s23=>ae ?_
     obtain rfl:=oJ e4
     exact k6 _ _ ⟨_,_,_,(g6.trans g7),s23,h17,h18,h19,h20,h21,h22,h23,h24,h25,hti1⟩
    replace e4:=bb q18 e4
    refine ar ?_
    obtain rfl:=oJ e4
    exact k6 _ _ ⟨_,_,_,Gw.refl _ _,s15,h17,h18,h19,h20,h21,h22,h23,h24,h25,hti1⟩
   intro _ H14 i7
   obtain⟨Z5,V5,w6,g5,s17,h26,h27,h28,h29,h30,h31,h32,h33,h34,h35⟩:=i7
   refine aF (bq (az h35 rfl (aa (v:=vi (Pu.W ((i6:Int)+1))) rfl (ae ?_))))
   obtain rfl:=oJ e3
   exact k5 _ _ ⟨(iv rfl (bE q15 (h16).bd)),_,_,_,(g4.trans g5),s17,h26,h27,h28,h29,h30,h31,h32,h33,h34⟩
  obtain⟨hte1,Z8,V8,w10,g8,s24,h38,h39,h40,h41,h42,h43,h44,h45,h46⟩:=jd
  refine af (ao hte1 h46 (ae (ah (bc rfl (Int.lt_irrefl _) (aR (aU (aU (bT (af (am h38 (ak 0 s24 rfl rfl rfl rfl (aa h41 ?_))))))))))))
  obtain⟨x7,q20,e2⟩:=oB e2
  refine aJ (v:=vS d1 a0.Accept) rfl rfl (hp1.mono (g1.trans (g2.trans (g3.trans g8))).v) rfl q20 fun p5 q21=>cj rfl (hp1.mono (g1.trans (g2.trans (g3.trans g8))).v) s24.v q21 q20 (cd rfl rfl (ae ?_))
  obtain⟨y5,e5,e2⟩:=oB e2
  refine bf (I:=fun tm H=>∃(Z9 V9:PH) (w11:Value),Gw Z8 V8 Z9 V9∧Sat Z9 V9 H [pts b1 (.rw 0 [vi a0.Start,(vS d1 a0.Accept),(vS d2 a0.Next)]),pts b2 (.rw 0 [vi 0,vi 0,vi 0,(.slice none 0 0)]),pts b3 (.rw 0 [(vN x3),(vN a0.Accept),vi a0.Start,w11]),It.sl (Sh.ro Sh.E2) w11 y5]∧tm 1=(pV b1 0)∧tm 2=(pV b2 0)∧tm 5=(pV b3 0)∧tm 42=(vS d2 a0.Next)∧tm 43=(vN a0.Next)∧tm 44=(vJ i5)) (fun k7=>?_) ?_
  ·refine aI rfl (fun q22=>?_) (fun q22=>?_)
   ·replace e5:=ax q22 e5
    refine bq (am h40 ?_)
    obtain⟨d9,rfl⟩:=((s24.curS (s:=Sh.ro Sh.E2) 3 rfl)).val
    refine ak 2 s24 rfl rfl rfl rfl (aa h41 (bR (qs:=[(0,1,(vJ i5))]) rfl rfl (bP (s:=Sh.ro Sh.E2) (us:=[(vJ i5),(.slice none 0 0)]) (qs:=[(0,2,(.agg #[(vJ i5),(.slice none 0 0)]))]) (xs:=[(Ty.E2.mk (i5:Int) [])]) s24 (Sh.ro_lt _) rfl rfl rfl (Els.cons (c:=[(vJ i5),(.slice none 0 0)]) (Sh.L8 (x:=Ty.E2.mk (i5:Int) []) RdS.nil) Els.nil) rfl rfl fun w12 H21 s26=>?_)))
    obtain⟨Z10,V10,g10,s27,h53⟩:=s26.frzS 0 rfl
    replace h53:=h53.of_ro
    obtain⟨x8,q23,e5⟩:=oB e5
    refine cn 3 s27 rfl (Sh.ro_lt _) rfl rfl rfl rfl h53 s27.z (fun h=>h) (by decide) q23 fun w13 H22 s28=>am h40 ?_
    obtain⟨d10,rfl⟩:=((s28.curS (s:=Sh.ro Sh.E2) 3 rfl)).val
    refine aP (us':=[(vN x3),(vN a0.Accept),vi a0.Start,(vS d10 x8)]) 2 s28 rfl rfl rfl rfl rfl rfl rfl fun H23 s29=>ae ?_
    obtain rfl:=oJ e5
    exact k7 _ _ ⟨_,_,_,g10,s29,h38,h39,h40,h42,h43,h44⟩
   replace e5:=bb q22 e5
   refine ar ?_
   obtain rfl:=oJ e5
   exact k7 _ _ ⟨_,_,_,Gw.refl _ _,s24,h38,h39,h40,h42,h43,h44⟩
  intro _ H20 i8
  obtain⟨Z9,V9,w11,g9,s25,h47,h48,h49,h50,h51,h52⟩:=i8
  refine aF (bq (az h52 rfl (aa (v:=vi (Pu.W ((i5:Int)+1))) rfl (ae ?_))))
  obtain rfl:=oJ e2
  exact k4 _ _ ⟨(iv rfl (bE q11 ((hp2.mono (g1.trans g2).v)).bd)),_,_,_,(g3.trans (g8.trans g9)),s25,h47,h48,h49,h50,h51⟩
 obtain⟨hte0,Z11,V11,w14,g11,s30,h54,h55,h56,h57,h58⟩:=jd
 refine af (ao hte0 h58 (ae (ah (bc rfl (Int.lt_irrefl _) (aR (aU (aU (bT (ah (af ?_))))))))))
 obtain⟨d11,rfl⟩:=((s30.curS (s:=Sh.ro Sh.E2) 3 rfl)).val
 refine ak 2 s30 rfl h56 rfl rfl ?_
 obtain⟨x9,q24,e⟩:=oB e
 obtain⟨Z12,V12,W2,g12,u2,c5,c6,-,c8,c7⟩:=Sat.call (l1:=[]) s30
 refine au (mc rfl m0) (X.E1 nd.E1 (a0:=Ty.E8.mk (x3.length:Int) (a0.Accept.length:Int) a0.Start y2) c5 (c6 3 _ (Sh.ro Sh.E2) _ _ rfl) q24) fun _ H25 i9=>?_
 obtain⟨rfl,s31⟩:=i9
 have s32:=c7 _ _ s31
 refine aa (v:=vi x9) rfl (ae (af (aa (v:=vi x9) rfl (cQ rfl rfl (ae (aI rfl (fun q25=>?_) (fun q25=>?_)))))))
 ·replace e:=ax q25 e
  refine af (bR (qs:=[]) rfl rfl (aa (v:=vi x9) rfl (aP (us':=[vi 0,vi 0,vi 0,(.slice none 0 0)]) 1 s32 rfl h55 rfl rfl rfl rfl rfl fun H26 s33=>aa (v:=vi x9) rfl (ae (aL ?_)))))
  obtain rfl:=oJ e
  exact⟨.inr rfl,_,(ra2 (rac 1 s33 rfl h55 rfl rfl) (rat rfl)),_,rfl,(((s33.push (aW (s:=Sh.ro Sh.E2))).pick [0] rfl).weak (g1.trans (g2.trans (g11.trans g12))) hs.zv)⟩
 replace e:=bb q25 e
 refine ar (af (ak 2 s32 rfl h56 rfl rfl (aP (us':=[(vN x3),(vN a0.Accept),vi a0.Start,(vS d11 y2)]) 1 s32 rfl h55 rfl rfl rfl rfl rfl fun H27 s34=>aa (v:=vi 0) rfl (ae (aL ?_)))))
 obtain rfl:=oJ e
 exact⟨.inr rfl,_,(ra2 (rac 1 s34 rfl h55 rfl rfl) (rat rfl)),_,rfl,((s34.pick [3] rfl).weak (g1.trans (g2.trans (g11.trans g12))) hs.zv)⟩
structure Nd.K2 (T:FuncId→Option AFunc):Prop where
 own_teach_way:Has T I.K2 F.K2
theorem X.teach_way_rec {T:FuncId→Option AFunc}(nd:Nd.K2 T):∀φ:Nat,(∀{Z V:PH} {H:Hp} {v1:Value} {a0:(List Ty.J4)} {a1:Int} (_:Sat Z V H []) (_:RdS Sh.J4 V v1 a0) {r:(List Int)} (_:P.K2 φ a0 a1=some r),G T I.K2 [v1,vi a1] H (fun rv H'=>∃(u1:Value),rv=u1∧Sat Z V H' [It.sl Sh.int u1 r])):=by
 intro φ
 induction φ with
 | zero=>
   intro Z V H v1 a0 a1 hs hp1 r e
   rw [P.K2] at e;cases e
 | succ φ ih=>
   intro Z V H v1 a0 a1 hs hp1 r e
   rw [P.K2] at e
   refine bB nd.own_teach_way (af (aa (v:=.slice none 0 0) rfl (ae (ah (af (aa (v:=v1) rfl (aa (v:=vi a1) rfl ?_)))))))
   obtain⟨x1,q1,e⟩:=oB e
   refine aJ (v:=v1) rfl rfl hp1 rfl q1 fun p1 q2=>jN rfl q2 fun p2 q3=>kg rfl hp1 hs.v rfl q2 q3 q1 rfl fun c1 h1=>?_
   obtain rfl:=h1
   refine⟨_,rfl,?_⟩
   refine ao rfl rfl (ae (aI rfl (fun q4=>?_) (fun q4=>?_)))
   ·replace e:=ax q4 e
    refine af (aa (v:=.slice none 0 0) rfl (ae (aL ?_)))
    obtain rfl:=oJ e
    exact⟨.inr rfl,_,(ar1 rfl),_,rfl,(hs.push (aW (s:=Sh.int)))⟩
   replace e:=bb q4 e
   refine ar (ah (ap (P:=fun tm=>tm 0=v1∧tm 1=vi a1∧True) ⟨rfl,rfl,trivial⟩ ?_))
   intro _ i1
   obtain⟨h2,h3,-⟩:=i1
   refine aA hs fun n1 H1 s1 q5 d1=>aj h2 (aj h2 (aj h3 ?_))
   obtain⟨x2,q6,e⟩:=oB e
   refine aq (v:=v1) rfl rfl hp1 rfl q6 fun p3 q7=>dH rfl q7 fun p4 q8=>fj (RdS.low hp1 s1.v q5) rfl hp1 s1.v rfl q7 q8 q6 rfl fun c2 h4=>?_
   obtain rfl:=h4
   refine⟨_,rfl,?_⟩
   obtain⟨x3,q9,e⟩:=oB e
   obtain⟨Z1,V1,W1,g1,u1,c3,c4,-,c6,c5⟩:=Sat.call (l1:=[]) s1
   refine bK (mc rfl (mc rfl m0)) (ih c3 (hp1.mono (g1.v.trans u1)) q9) fun w1 H2 i2 k1=>?_
   have d2:=d1.keep k1
   obtain⟨_,rfl,s2⟩:=i2
   have s3:=c5 _ _ s2
   refine aj h2 (aj h3 ?_)
   obtain⟨x4,q10,e⟩:=oB e
   refine aq (v:=v1) rfl rfl (hp1.mono g1.v) rfl q10 fun p5 q11=>dH rfl q11 fun p6 q12=>fj (RdS.low hp1 s1.v q5) rfl (hp1.mono g1.v) s3.v rfl q11 q12 q10 rfl fun c7 h5=>?_
   obtain rfl:=h5
   refine⟨_,rfl,?_⟩
   refine fE (s:=Sh.int) (us:=[vi x4.by_]) (qs:=[(0,1,(vi x4.by_))]) (xs:=[x4.by_]) (d2.get 12 rfl rfl) s3 Sh.G5 rfl rfl rfl (Els.cons (c:=[vi x4.by_]) rfl Els.nil) rfl rfl fun w2 H3 s4 k2=>?_
   have d3:=d2.next 12 rfl k2
   obtain⟨x5,q13,e⟩:=oB e
   refine fD 1 s4 rfl Sh.G5 rfl rfl rfl rfl (s4.curS (s:=Sh.int) 0 rfl) pR (fun h=>h) (by decide) q13 fun w3 H4 s5 k3=>?_
   have d4:=d3.keep k3
   refine aj (v:=w3) rfl (aQ (cV rfl (ta4 (tre (tl8 (tl2 (trl tr0))))) (ta8 (tra (tre (tl4 (tl2 tr0))))) (ta8 (tre (tl4 (tl2 (trl tr0))))) (ju ek hp1 q10 rfl q11 q12 rfl rfl (g1.v.trans s3.v) s1.v (fun cs h=>by cases h;exact⟨_,rfl,by simp [vsame,vsame1]⟩)) (ju ek hp1 q10 rfl q11 q12 rfl rfl (g1.v.trans s3.v) (g1.v.trans s3.v) (fun cs h=>by cases h;exact⟨_,rfl,by simp [vsame,vsame1]⟩)) aK) (ap (P:=fun tm=>tm 4=w3∧True) ⟨rfl,trivial⟩ ?_))
   intro _ i3
   obtain⟨h6,-⟩:=i3
   refine aL ?_
   obtain rfl:=oJ e
   exact⟨.inr rfl,_,(ar1 h6),_,rfl,((s5.pick [1] rfl).weak g1 hs.zv)⟩
theorem X.K2 {T:FuncId→Option AFunc}(nd:Nd.K2 T){φ:Nat}{Z V:PH}{H:Hp}{v1:Value}{a0:(List Ty.J4)}{a1:Int}(hs:Sat Z V H [])(hp1:RdS Sh.J4 V v1 a0){r:(List Int)}(e:P.K2 φ a0 a1=some r):
 G T I.K2 [v1,vi a1] H (fun rv H'=>∃(u1:Value),rv=u1∧Sat Z V H' [It.sl Sh.int u1 r]):=(X.teach_way_rec nd φ) hs hp1 e
structure Nd.K0 (T:FuncId→Option AFunc):Prop where
 own:Has T I.K0 F.K0
theorem X.K0 (nd:Nd.K0 T){v1:Value}{v2:Value}{a0:Ty.J5}{a1:Int}{a2:Int}(hs:Sat Z V H [])(hp1:RdS Sh.int V v1 a0.Accept)(hp2:RdS sI1 V v2 a0.Next){r:Int}(e:P.K0 a0 a1 a2=some r):
 G T I.K0 [(.agg #[vi a0.Start,v1,v2]),vi a1,vi a2] H (fun rv H'=>rv=vi r∧Sat Z V H' []):=by
 unfold P.K0 at e
 refine bB nd.own (af ?_)
 obtain⟨d1,rfl⟩:=(hp1).val
 obtain⟨d2,rfl⟩:=(hp2).val
 refine cx hs rfl rfl fun b1 H1 s1=>aa (v:=vi 0) rfl (ae (ah (af (aa (v:=vi a1) rfl (ao rfl rfl (ae (aI rfl (fun q1=>?_) (fun q1=>?_))))))))
 ·replace e:=ax q1 e
  refine af (aa (v:=vi (-1)) rfl (ae (aL ?_)))
  obtain rfl:=oJ e
  exact⟨.inr rfl,_,(ar1 rfl),rfl,(s1.pick [] rfl)⟩
 replace e:=bb q1 e
 refine ar (af (am rfl (ak 0 s1 rfl rfl rfl rfl (aa (v:=vi a1) rfl ?_))))
 obtain⟨x1,q2,e⟩:=oB e
 refine aJ (v:=vS d2 a0.Next) rfl rfl hp2 rfl q2 fun p1 q3=>dh rfl hp2 s1.v q3 q2 fun w1 h1=>aa (v:=vi a2) rfl ?_
 obtain⟨x2,q4,e⟩:=oB e
 refine aJ (v:=w1) rfl rfl h1 rfl q4 fun p2 q5=>cj rfl h1 s1.v q5 q4 (aa (v:=vi x2) rfl (ae (ap (P:=fun tm=>tm 6=vi x2∧True) ⟨rfl,trivial⟩ ?_)))
 intro _ i1
 obtain⟨h2,-⟩:=i1
 refine aL ?_
 obtain rfl:=oJ e
 exact⟨.inr rfl,_,(ar1 h2),rfl,(s1.pick [] rfl)⟩
structure Nd.E4 (T:FuncId→Option AFunc):Prop where
 own:Has T I.E4 F.E4
 D8:Nd.D8 T
 K2:Nd.K2 T
 K0:Nd.K0 T
theorem X.E4 {T:FuncId→Option AFunc}(nd:Nd.E4 T){φ:Nat}{Z V:PH}{H:Hp}{v1:Value}{v2:Value}{v3:Value}{v4:Value}{a0:Ty.J5}{a1:Ty.J5}(hs:Sat Z V H [])(hp1:RdS Sh.int V v1 a0.Accept)(hp2:RdS sI1 V v2 a0.Next)(hp3:RdS Sh.int V v3 a1.Accept)(hp4:RdS sI1 V v4 a1.Next){r:((List Int)×Bool)}(e:P.E4 φ a0 a1=some r):
 G T I.E4 [(.agg #[vi a0.Start,v1,v2]),(.agg #[vi a1.Start,v3,v4])] H (fun rv H'=>∃(u1:Value),rv=(.tuple #[u1,(.bool r.2)])∧Sat Z V H' [It.sl Sh.int u1 r.1]):=by
 unfold P.E4 at e
 refine bB nd.own (af ?_)
 obtain⟨d1,rfl⟩:=(hp1).val
 obtain⟨d2,rfl⟩:=(hp2).val
 refine cx hs rfl rfl fun b1 H1 s1=>?_
 obtain⟨d3,rfl⟩:=(hp3).val
 obtain⟨d4,rfl⟩:=(hp4).val
 refine cx s1 rfl rfl fun b2 H2 s2=>aa (v:=.slice none 0 0) rfl (aa (v:=.bool false) rfl (ae (ah (ah (aA s2 fun n1 H3 s3 q1 d5=>aZ (q1 _ _ (an.2 ⟨s3.curB 1 rfl,by simp⟩)) 1 s3 rfl rfl rfl rfl ?_)))))
 obtain⟨x1,q2,e⟩:=oB e
 obtain⟨Z1,V1,W1,g1,u1,c1,c2,-,c4,c3⟩:=Sat.call (l1:=[]) s3
 refine bK (mc rfl m0) (X.D8 nd.D8 c1 (hp1.mono (g1.v.trans u1)) (hp2.mono (g1.v.trans u1)) q2) fun _ H4 i1 k1=>?_
 have d6:=d5.keep k1
 obtain⟨rfl,s4⟩:=i1
 have s5:=c3 _ _ s4
 refine iP rfl rfl (aj (v:=.bool (decide (x1≠0))) rfl ?_)
 obtain⟨y1,e1,e⟩:=oB e
 refine dn 4 (I:=fun tm H=>DD n1 8 (List.length F.E4.r1) H∧(∃(Z2 V2:PH),Gw Z1 V1 Z2 V2∧Sat Z2 V2 H [pts b1 (.rw 0 [vi a0.Start,(vS d1 a0.Accept),(vS d2 a0.Next)]),pts b2 (.rw 0 [vi a1.Start,(vS d3 a1.Accept),(vS d4 a1.Next)])]∧tm 2=(pV b1 0)∧tm 3=(pV b2 0)∧tm 20=(.bool y1))) (fun k2=>?_) ?_
 ·rcases Bool.eq_false_or_eq_true (decide (x1≠0)) with q3|q3
  ·replace e1:=ax q3 e1
   refine aw rfl q3 (aw rfl q3 (aw rfl q3 (bJ (a:=.bool true) rfl q3 rfl ?_)))
   obtain rfl:=oJ e1
   exact k2 _ _ _ ⟨d6.up rfl,_,_,Gw.refl _ _,(s5.pick [1,0] rfl),rfl,rfl,rfl⟩
  replace e1:=aS q3 e1
  refine ai rfl q3 (aZ (q1 _ _ (an.2 ⟨s3.curB 0 rfl,by simp⟩)) 0 s5 rfl rfl rfl rfl (ai rfl q3 ?_))
  obtain⟨x2,q4,e1⟩:=oB e1
  obtain⟨Z3,V3,W2,g3,u2,c5,c6,-,c8,c7⟩:=Sat.call (l1:=[]) s5
  refine bK (mc rfl m0) (X.D8 nd.D8 c5 (hp3.mono ((g1.trans g3).v.trans u2)) (hp4.mono ((g1.trans g3).v.trans u2)) q4) fun _ H6 i2 k3=>?_
  have d7:=d6.keep k3
  obtain⟨rfl,s7⟩:=i2
  have s8:=c7 _ _ s7
  refine ai rfl q3 (iP rfl rfl (bI (b:=.bool (decide (x2≠0))) rfl q3 rfl ?_))
  obtain rfl:=oJ e1
  exact k2 _ _ _ ⟨d7.up rfl,_,_,g3,(s8.pick [1,0] rfl),rfl,rfl,rfl⟩
 intro _ H5 _ i3
 obtain⟨d8,Z2,V2,g2,s6,h1,h2,h3⟩:=i3
 refine aj h3 ?_
 obtain⟨y2,e2,e⟩:=oB e
 refine dn 12 (I:=fun tm H=>DD n1 21 (List.length F.E4.r1) H∧(∃(Z4 V4:PH),Gw Z2 V2 Z4 V4∧Sat Z4 V4 H [pts b1 (.rw 0 [vi a0.Start,(vS d1 a0.Accept),(vS d2 a0.Next)]),pts b2 (.rw 0 [vi a1.Start,(vS d3 a1.Accept),(vS d4 a1.Next)])]∧tm 2=(pV b1 0)∧tm 3=(pV b2 0)∧tm 33=(.bool y2))) (fun k4=>?_) ?_
 ·rcases Bool.eq_false_or_eq_true y1 with q5|q5
  ·replace e2:=ax q5 e2
   refine aw rfl q5 (aw rfl q5 (aw rfl q5 (aw rfl q5 (aw rfl q5 (aw rfl q5 (aw rfl q5 (aw rfl q5 (aw rfl q5 (aw rfl q5 (aw rfl q5 (bJ (a:=.bool true) rfl q5 rfl ?_)))))))))))
   obtain rfl:=oJ e2
   exact k4 _ _ _ ⟨d8.up rfl,_,_,Gw.refl _ _,s6,h1,h2,rfl⟩
  replace e2:=aS q5 e2
  refine ai rfl q5 (bt h1 (ai rfl q5 (aZ (q1 _ _ (an.2 ⟨s3.curB 1 rfl,by simp⟩)) 0 s6 rfl rfl rfl rfl (ai rfl q5 ?_))))
  obtain⟨x3,q6,e2⟩:=oB e2
  refine aq (v:=vS d2 a0.Next) rfl rfl (hp2.mono (g1.trans g2).v) rfl q6 fun p1 q7=>ai rfl q5 (iO (RdS.low hp2 s3.v q1) rfl hp2 ((g1.trans g2).v.trans s6.v) q7 q6 fun w1 h7=>ai rfl q5 (dI rfl ((h7.mono (g1.trans g2).v)).len (ai rfl q5 (bt h2 (ai rfl q5 (aZ (q1 _ _ (an.2 ⟨s3.curB 0 rfl,by simp⟩)) 1 s6 rfl rfl rfl rfl (ai rfl q5 ?_)))))))
  obtain⟨x4,q8,e2⟩:=oB e2
  refine aq (v:=vS d4 a1.Next) rfl rfl (hp4.mono (g1.trans g2).v) rfl q8 fun p2 q9=>ai rfl q5 (iO (RdS.low hp4 s3.v q1) rfl hp4 ((g1.trans g2).v.trans s6.v) q9 q8 fun w2 h8=>ai rfl q5 (dI rfl ((h8.mono (g1.trans g2).v)).len (ai rfl q5 (iP rfl rfl (bI (b:=.bool (decide ((x3.length:Int)≠(x4.length:Int)))) rfl q5 rfl ?_)))))
  obtain rfl:=oJ e2
  exact k4 _ _ _ ⟨d8.up rfl,_,_,Gw.refl _ _,s6,h1,h2,rfl⟩
 intro _ H7 _ i4
 obtain⟨d9,Z4,V4,g4,s9,h4,h5,h6⟩:=i4
 refine aQ aK (bx h6 (fun q10=>?_) (fun q10=>?_))
 ·replace e:=ax q10 e
  refine af (aa (v:=.slice none 0 0) rfl (aa (v:=.bool false) rfl (ae (aL ?_))))
  obtain rfl:=oJ e
  exact⟨.inr rfl,_,(ar2 rfl rfl),_,rfl,(((s9.push (aW (s:=Sh.int))).pick [0] rfl).weak (g1.trans (g2.trans g4)) hs.zv)⟩
 replace e:=aS q10 e
 refine ar (af (am h4 (ak 0 s9 rfl rfl rfl rfl (am h5 (ak 1 s9 rfl rfl rfl rfl (bR (qs:=[(0,1,(vi a0.Start)),(1,1,(vi a1.Start)),(2,1,(vi (-1))),(3,1,(vi 0))]) rfl rfl (bP (s:=Sh.ro Sh.J4) (us:=[vi a0.Start,vi a1.Start,(vi (-1)),vi 0]) (qs:=[(0,4,(.agg #[vi a0.Start,vi a1.Start,(vi (-1)),vi 0]))]) (xs:=[(Ty.J4.mk a0.Start a1.Start (-1) 0)]) s9 (Sh.ro_lt _) rfl rfl rfl (Els.cons (c:=[vi a0.Start,vi a1.Start,(vi (-1)),vi 0]) rfl Els.nil) rfl rfl fun w3 H8 s10=>aa (v:=w3) rfl (ae (af (dy (kE2:(Int×Int)→Value) (Value.bool:Bool→Value) s10 fun b3 H9 s11=>am h4 (ak 2 s11 rfl rfl rfl rfl (am h5 (ak 3 s11 rfl rfl rfl rfl (bR (qs:=[(0,1,(vi a0.Start)),(1,1,(vi a1.Start))]) rfl rfl (dz Mk.kE2 (q:=(a0.Start,a1.Start)) (v:=true) 0 s11 rfl rfl rfl rfl rfl rfl fun H10 s12=>aa (v:=.map (some b3)) rfl (aa (v:=.map (some b3)) rfl (ae (ap (P:=fun tm=>tm 2=(pV b1 0)∧tm 3=(pV b2 0)∧tm 6=w3∧tm 7=(.map (some b3))∧True) ⟨h4,h5,rfl,rfl,trivial⟩ ?_))))))))))))))))))
 intro _ i5
 obtain⟨h9,h10,h11,h12,-⟩:=i5
 refine ah (af (aa (v:=vi 0) rfl (ae ?_)))
 obtain⟨y3,q13,e⟩:=oB e
 refine bf (I:=fun tm H=>∃(s15:((List Ty.J4)×(List ((Int×Int)×Bool))×Int)),y3= .out s15∧(∃(Z6 V6:PH) (w5:Value),Gw Z4 V4 Z6 V6∧Sat Z6 V6 H [pts b1 (.rw 0 [vi a0.Start,(vS d1 a0.Accept),(vS d2 a0.Next)]),pts b2 (.rw 0 [vi a1.Start,(vS d3 a1.Accept),(vS d4 a1.Next)]),It.sl (Sh.ro Sh.J4) w5 s15.1,It.mp kE2 Value.bool b3 s15.2.1]∧tm 2=(pV b1 0)∧tm 3=(pV b2 0)∧tm 6=w5∧tm 7=(.map (some b3))∧tm 8=vi s15.2.2)) (fun k8=>?_) ?_
 ·refine ay (cc (fun(s13:((List Ty.J4)×(List ((Int×Int)×Bool))×Int)) tm H=>∃(Z5 V5:PH) (w4:Value),Gw Z4 V4 Z5 V5∧Sat Z5 V5 H [pts b1 (.rw 0 [vi a0.Start,(vS d1 a0.Accept),(vS d2 a0.Next)]),pts b2 (.rw 0 [vi a1.Start,(vS d3 a1.Accept),(vS d4 a1.Next)]),It.sl (Sh.ro Sh.J4) w4 s13.1,It.mp kE2 Value.bool b3 s13.2.1]∧tm 2=(pV b1 0)∧tm 3=(pV b2 0)∧tm 6=w4∧tm 7=(.map (some b3))∧tm 8=vi s13.2.2) (fun s13 y4 tm H12 j1 e3 k5 k6 k7=>?_) q13 ⟨_,_,_,Gw.refl _ _,(s12.pick [2,3,1,0] rfl),h9,h10,h11,h12,rfl⟩)
  obtain⟨Z5,V5,w4,g5,s14,h13,h14,h15,h16,h17⟩:=j1
  unfold P.E4.b0 at e3
  refine ah (af (aa h17 (aa h15 (aD rfl ((s14.curS (s:=Sh.ro Sh.J4) 2 rfl)).len (ao rfl rfl (ae (aI rfl (fun q14=>?_) (fun q14=>?_))))))))
  ·replace e3:=ax q14 e3
   refine ar (ah (ay (af (aa h15 (aa h17 ?_)))))
   obtain⟨x6,q15,e3⟩:=oB e3
   refine aJ (v:=w4) rfl rfl (s14.curS (s:=Sh.ro Sh.J4) 2 rfl) rfl q15 fun p3 q16=>gJ (p:=p3) 2 s14 rfl rfl rfl q16 q15 fun Z7 V7 c9 g7 s17 h23=>?_
   obtain rfl:=h23
   refine bv s17 fun b4 H14 s18=>aP (us':=[vi x6.a,vi x6.b,vi x6.from_,vi x6.by_]) 0 s18 rfl rfl rfl rfl rfl rfl rfl fun H15 s19=>ae (ah (ah (ap (P:=fun tm=>tm 2=(pV b1 0)∧tm 3=(pV b2 0)∧tm 6=w4∧tm 7=(.map (some b3))∧tm 8=vi s13.2.2∧tm 9=(pV b4 0)∧True) ⟨h13,h14,h15,h16,h17,rfl,trivial⟩ ?_)))
   intro _ i7
   obtain⟨h24,h25,h26,h27,h28,h29,-⟩:=i7
   refine aA s19 fun n2 H16 s20 q17 d10=>bt h29 (aZ (q17 _ _ (an.2 ⟨s20.curB 0 rfl,by simp⟩)) 0 s20 rfl rfl rfl rfl (hO rfl rfl (aj (v:=.bool (decide (0≤x6.a))) rfl ?_)))
   obtain⟨y5,e4,e3⟩:=oB e3
   refine dn 8 (I:=fun tm H=>DD n2 12 (List.length F.E4.r9) H∧(∃(Z8 V8:PH),Gw Z7 V7 Z8 V8∧Sat Z8 V8 H [pts b1 (.rw 0 [vi a0.Start,(vS d1 a0.Accept),(vS d2 a0.Next)]),pts b2 (.rw 0 [vi a1.Start,(vS d3 a1.Accept),(vS d4 a1.Next)]),It.sl (Sh.ro Sh.J4) w4 s13.1,It.mp kE2 Value.bool b3 s13.2.1,pts b4 (.rw 0 [vi x6.a,vi x6.b,vi x6.from_,vi x6.by_])]∧tm 2=(pV b1 0)∧tm 3=(pV b2 0)∧tm 6=w4∧tm 7=(.map (some b3))∧tm 8=vi s13.2.2∧tm 9=(pV b4 0)∧tm 68=(.bool y5))) (fun k9=>?_) ?_
   ·rcases Bool.eq_false_or_eq_true (decide (0≤x6.a)) with q18|q18
    ·replace e4:=ax q18 e4
     refine ai rfl q18 (bt h24 (ai rfl q18 (aZ (q17 _ _ (an.2 ⟨s20.curB 1 rfl,by simp⟩)) 1 s20 rfl rfl rfl rfl (ai rfl q18 (bt h29 (ai rfl q18 (aZ (q17 _ _ (an.2 ⟨s20.curB 0 rfl,by simp⟩)) 0 s20 rfl rfl rfl rfl (ai rfl q18 ?_))))))))
     obtain⟨x7,q19,e4⟩:=oB e4
     refine aq (v:=vS d1 a0.Accept) rfl rfl (hp1.mono (g1.trans (g2.trans (g4.trans (g5.trans g7)))).v) rfl q19 fun p4 q20=>ai rfl q18 (aO (RdS.low (hp1.mono (g1.trans (g2.trans (g4.trans (g5.trans g7)))).v) s20.v q17) rfl hp1 ((g1.trans (g2.trans (g4.trans (g5.trans g7)))).v.trans s20.v) q20 q19 (ai rfl q18 (hO rfl rfl (bJ (a:=.bool (decide (0≤x7))) rfl q18 rfl ?_))))
     obtain rfl:=oJ e4
     exact k9 _ _ _ ⟨d10.up rfl,_,_,Gw.refl _ _,(s20.pick [1,2,3,4,0] rfl),h24,h25,h26,h27,h28,h29,rfl⟩
    replace e4:=aS q18 e4
    refine aw rfl q18 (aw rfl q18 (aw rfl q18 (aw rfl q18 (aw rfl q18 (aw rfl q18 (aw rfl q18 (bI (b:=.bool false) rfl q18 rfl ?_)))))))
    obtain rfl:=oJ e4
    exact k9 _ _ _ ⟨d10.up rfl,_,_,Gw.refl _ _,(s20.pick [1,2,3,4,0] rfl),h24,h25,h26,h27,h28,h29,rfl⟩
   intro _ H17 _ i8
   obtain⟨d11,Z8,V8,g8,s21,h30,h31,h32,h33,h34,h35,h36⟩:=i8
   refine bt h35 (aZ (q17 _ _ (an.2 ⟨s20.curB 0 rfl,by simp⟩)) 4 s21 rfl rfl rfl rfl (hO rfl rfl (aj (v:=.bool (decide (0≤x6.b))) rfl ?_)))
   obtain⟨y6,e5,e3⟩:=oB e3
   refine dn 8 (I:=fun tm H=>DD n2 24 (List.length F.E4.r9) H∧(∃(Z9 V9:PH),Gw Z8 V8 Z9 V9∧Sat Z9 V9 H [pts b1 (.rw 0 [vi a0.Start,(vS d1 a0.Accept),(vS d2 a0.Next)]),pts b2 (.rw 0 [vi a1.Start,(vS d3 a1.Accept),(vS d4 a1.Next)]),It.sl (Sh.ro Sh.J4) w4 s13.1,It.mp kE2 Value.bool b3 s13.2.1,pts b4 (.rw 0 [vi x6.a,vi x6.b,vi x6.from_,vi x6.by_])]∧tm 2=(pV b1 0)∧tm 3=(pV b2 0)∧tm 6=w4∧tm 7=(.map (some b3))∧tm 8=vi s13.2.2∧tm 9=(pV b4 0)∧tm 68=(.bool y5)∧tm 80=(.bool y6))) (fun k10=>?_) ?_
   ·rcases Bool.eq_false_or_eq_true (decide (0≤x6.b)) with q21|q21
    ·replace e5:=ax q21 e5
     refine ai rfl q21 (bt h31 (ai rfl q21 (aZ (q17 _ _ (an.2 ⟨s20.curB 2 rfl,by simp⟩)) 1 s21 rfl rfl rfl rfl (ai rfl q21 (bt h35 (ai rfl q21 (aZ (q17 _ _ (an.2 ⟨s20.curB 0 rfl,by simp⟩)) 4 s21 rfl rfl rfl rfl (ai rfl q21 ?_))))))))
     obtain⟨x8,q22,e5⟩:=oB e5
     refine aq (v:=vS d3 a1.Accept) rfl rfl (hp3.mono (g1.trans (g2.trans (g4.trans (g5.trans (g7.trans g8))))).v) rfl q22 fun p5 q23=>ai rfl q21 (aO (RdS.low (hp3.mono (g1.trans (g2.trans (g4.trans (g5.trans g7)))).v) s20.v q17) rfl hp3 ((g1.trans (g2.trans (g4.trans (g5.trans (g7.trans g8))))).v.trans s21.v) q23 q22 (ai rfl q21 (hO rfl rfl (bJ (a:=.bool (decide (0≤x8))) rfl q21 rfl ?_))))
     obtain rfl:=oJ e5
     exact k10 _ _ _ ⟨d11.up rfl,_,_,Gw.refl _ _,s21,h30,h31,h32,h33,h34,h35,h36,rfl⟩
    replace e5:=aS q21 e5
    refine aw rfl q21 (aw rfl q21 (aw rfl q21 (aw rfl q21 (aw rfl q21 (aw rfl q21 (aw rfl q21 (bI (b:=.bool false) rfl q21 rfl ?_)))))))
    obtain rfl:=oJ e5
    exact k10 _ _ _ ⟨d11.up rfl,_,_,Gw.refl _ _,s21,h30,h31,h32,h33,h34,h35,h36,rfl⟩
   intro _ H18 _ i9
   obtain⟨d12,Z9,V9,g9,s22,h37,h38,h39,h40,h41,h42,h43,h44⟩:=i9
   refine ko (q_nbool _ _) h43 h44 (aQ aK (bx rfl (fun q24=>?_) (fun q24=>?_)))
   ·replace e3:=ax q24 e3
    refine af (aa h39 (aa h41 ?_))
    obtain⟨x9,q25,e3⟩:=oB e3
    obtain⟨Z10,V10,W3,g10,u3,c10,c11,-,c13,c12⟩:=Sat.call (l1:=[]) s22
    refine au (mc rfl (mc rfl m0)) (X.K2 nd.K2 c10 (c11 2 _ (Sh.ro Sh.J4) _ _ rfl) q25) fun w6 H19 i10=>?_
    obtain⟨_,rfl,s23⟩:=i10
    have s24:=c12 _ _ s23
    refine aa (v:=w6) rfl (aa (v:=.bool true) rfl (ae (aL ?_)))
    have e6:=ci (k7 _ (sJ e3)) e
    obtain rfl:=oJ e6
    exact⟨.inr rfl,_,(ar2 rfl rfl),_,rfl,((s24.pick [0] rfl).weak (g1.trans (g2.trans (g4.trans (g5.trans (g7.trans (g8.trans (g9.trans g10))))))) hs.zv)⟩
   replace e3:=aS q24 e3
   refine ar (af (am h37 (ak 0 s22 rfl rfl rfl rfl ?_)))
   obtain⟨x10,q26,e3⟩:=oB e3
   refine aJ (v:=vS d2 a0.Next) rfl rfl (hp2.mono (g1.trans (g2.trans (g4.trans (g5.trans (g7.trans (g8.trans g9)))))).v) rfl q26 fun p6 q27=>dh rfl (hp2.mono (g1.trans (g2.trans (g4.trans (g5.trans (g7.trans (g8.trans g9)))))).v) s22.v q27 q26 fun w7 h45=>aD rfl (h45).len (aa (v:=vi 0) rfl (ae ?_))
   obtain⟨x12,q30,e3⟩:=oB e3
   obtain⟨rfl,q32⟩:=bp q30
   obtain⟨y7,q33,e3⟩:=oB e3
   refine ay (aV (xs:=Pu.ran (x10.length:Int)) (fun(i11:Nat) (s25:((List Ty.J4)×(List ((Int×Int)×Bool)))) tm H=>tm 90=vi i11∧∃(Z11 V11:PH) (w8:Value),Gw Z9 V9 Z11 V11∧Sat Z11 V11 H [pts b1 (.rw 0 [vi a0.Start,(vS d1 a0.Accept),(vS d2 a0.Next)]),pts b2 (.rw 0 [vi a1.Start,(vS d3 a1.Accept),(vS d4 a1.Next)]),It.sl (Sh.ro Sh.J4) w8 s25.1,It.mp kE2 Value.bool b3 s25.2,pts b4 (.rw 0 [vi x6.a,vi x6.b,vi x6.from_,vi x6.by_])]∧tm 2=(pV b1 0)∧tm 3=(pV b2 0)∧tm 6=w8∧tm 7=(.map (some b3))∧tm 8=vi s13.2.2∧tm 9=(pV b4 0)∧tm 89=(vN x10)) (fun i11 x11 s25 s27 tm H21 q28 q29 j2 e7 k11=>?_) (fun tm H20 jd=>?_) q33 ⟨rfl,_,_,_,Gw.refl _ _,s22,h37,h38,h39,h40,h41,h42,rfl⟩)
   ·obtain⟨hti1,Z11,V11,w8,g11,s26,h46,h47,h48,h49,h50,h51,h52⟩:=j2
    unfold P.E4.b1 at e7
    have hti1:=iv hti1 (cD q28).symm
    refine af (ao hti1 h52 (ae (ah (be rfl (cf q28) (ar (ah (ay (af (aa hti1 (aa (v:=vi x11) rfl (ae (ah (aA s26 fun n3 H22 s28 q34 d13=>aZ (q34 _ _ (an.2 ⟨s28.curB 0 rfl,by simp⟩)) 0 s28 rfl h46 rfl rfl (bt h51 (aZ (q34 _ _ (an.2 ⟨s28.curB 4 rfl,by simp⟩)) 4 s28 rfl rfl rfl rfl (aj (v:=vi x11) rfl ?_))))))))))))))))
    obtain⟨x13,q35,e7⟩:=oB e7
    obtain⟨Z12,V12,W4,g12,u4,c14,c15,-,c17,c16⟩:=Sat.call (l1:=[]) s28
    refine bK (mc rfl (mc rfl (mc rfl m0))) (X.K0 nd.K0 c14 (hp1.mono (((g1.trans (g2.trans (g4.trans (g5.trans (g7.trans (g8.trans (g9.trans g11))))))).trans g12).v.trans u4)) (hp2.mono (((g1.trans (g2.trans (g4.trans (g5.trans (g7.trans (g8.trans (g9.trans g11))))))).trans g12).v.trans u4)) q35) fun _ H23 i12 k12=>?_
    have d14:=d13.keep k12
    obtain⟨rfl,s29⟩:=i12
    have s30:=c16 _ _ s29
    refine aZ (q34 _ _ (an.2 ⟨s28.curB 1 rfl,by simp⟩)) 1 s30 rfl h47 rfl rfl (bt h51 (aZ (q34 _ _ (an.2 ⟨s28.curB 4 rfl,by simp⟩)) 4 s30 rfl rfl rfl rfl (aj (v:=vi x11) rfl ?_)))
    obtain⟨x14,q36,e7⟩:=oB e7
    obtain⟨Z13,V13,W5,g13,u5,c18,c19,-,c21,c20⟩:=Sat.call (l1:=[]) s30
    refine bK (mc rfl (mc rfl (mc rfl m0))) (X.K0 nd.K0 c18 (hp3.mono (((g1.trans (g2.trans (g4.trans (g5.trans (g7.trans (g8.trans (g9.trans (g11.trans g12)))))))).trans g13).v.trans u5)) (hp4.mono (((g1.trans (g2.trans (g4.trans (g5.trans (g7.trans (g8.trans (g9.trans (g11.trans g12)))))))).trans g13).v.trans u5)) q36) fun _ H24 i13 k13=>?_
    have d15:=d14.keep k13
    obtain⟨rfl,s31⟩:=i13
    have s32:=c20 _ _ s31
    refine aj h50 (aj (v:=vi x11) rfl (hJ (qs:=[(0,1,(vi x13)),(1,1,(vi x14)),(2,1,(vi s13.2.2)),(3,1,(vi x11))]) rfl rfl (kb (d15.get 13 rfl rfl) s32 fun b5 H25 s33 k14=>?_)))
    have d16:=d15.next 13 rfl k14
    refine eC (us':=[vi x13,vi x14,vi s13.2.2,vi x11]) 0 s33 rfl rfl rfl rfl rfl rfl rfl fun H26 s34 k15=>?_
    have d17:=d16.keep k15
    refine aQ (cV rfl (ta8 (ta2 (tre (tl4 (trl tr0))))) (ta8 (ta2 (tra (tre (tl4 tr0))))) (ta8 (ta2 (tre (tl4 (trl tr0))))) (bZ (w:=.agg #[vi a1.Start,(vS d3 a1.Accept),(vS d4 a1.Next)]) ek h47 (bG 1 s30 rfl rfl rfl) (bG 1 s28 rfl rfl rfl) (by simp [vsame,vsame1])) (bZ (w:=.agg #[vi a1.Start,(vS d3 a1.Accept),(vS d4 a1.Next)]) ek h47 (bG 1 s30 rfl rfl rfl) (bG 1 s30 rfl rfl rfl) (by simp [vsame,vsame1])) (cV rfl (ta8 (tre (tl4 (tl2 (trl tr0))))) (ta8 (ta2 (tra (tre (tl4 tr0))))) (ta8 (ta2 (tre (tl4 (trl tr0))))) (bZ (w:=vi x6.b) ek rfl (bG 4 s30 rfl rfl rfl) (bG 4 s28 rfl rfl rfl) (by simp [vsame,vsame1])) (bZ (w:=vi x6.b) ek rfl (bG 4 s30 rfl rfl rfl) (bG 4 s30 rfl rfl rfl) (by simp [vsame,vsame1])) aK)) (ap (P:=fun tm=>tm 2=(pV b1 0)∧tm 3=(pV b2 0)∧tm 6=w8∧tm 7=(.map (some b3))∧tm 8=vi s13.2.2∧tm 9=(pV b4 0)∧tm 11=(pV b5 0)∧tm 89=(vN x10)∧tm 90=vi x11∧True) ⟨h46,h47,h48,h49,h50,h51,rfl,h52,hti1,trivial⟩ ?_)
    intro _ i14
    obtain⟨h53,h54,h55,h56,h57,h58,h59,h60,h61,-⟩:=i14
    refine af (am h59 (ak 0 s34 rfl rfl rfl rfl (am h59 (ak 0 s34 rfl rfl rfl rfl (bR (qs:=[(0,1,(vi x13)),(1,1,(vi x14))]) rfl rfl (bv s34 fun b6 H27 s35=>aP (us':=[vi x13,vi x14]) 0 s35 rfl rfl rfl rfl rfl rfl rfl fun H28 s36=>ae (af (aa h56 (ak 0 s36 rfl rfl rfl rfl (ck Mk.kE2 (q:=(x13,x14)) (z:=false) 5 s36 rfl rfl rfl rfl rfl (cy rfl (ae (ap (P:=fun tm=>tm 2=(pV b1 0)∧tm 3=(pV b2 0)∧tm 6=w8∧tm 7=(.map (some b3))∧tm 8=vi s13.2.2∧tm 9=(pV b4 0)∧tm 11=(pV b5 0)∧tm 12=(pV b6 0)∧tm 89=(vN x10)∧tm 90=vi x11∧tm 114=(.bool (!((Pu.mget (x13,x14) s25.2).getD false)))∧True) ⟨h53,h54,h55,h56,h57,h58,h59,rfl,h60,h61,rfl,trivial⟩ ?_)))))))))))))
    intro _ i15
    obtain⟨h62,h63,h64,h65,h66,h67,h68,h69,h70,h71,h72,-⟩:=i15
    obtain⟨y8,e8,e7⟩:=oB e7
    refine bf (I:=fun tm H=>∃(Z14 V14:PH) (w9:Value),Gw Z13 V13 Z14 V14∧Sat Z14 V14 H [pts b1 (.rw 0 [vi a0.Start,(vS d1 a0.Accept),(vS d2 a0.Next)]),pts b2 (.rw 0 [vi a1.Start,(vS d3 a1.Accept),(vS d4 a1.Next)]),It.sl (Sh.ro Sh.J4) w9 y8.1,It.mp kE2 Value.bool b3 y8.2,pts b4 (.rw 0 [vi x6.a,vi x6.b,vi x6.from_,vi x6.by_])]∧tm 2=(pV b1 0)∧tm 3=(pV b2 0)∧tm 6=w9∧tm 7=(.map (some b3))∧tm 8=vi s13.2.2∧tm 9=(pV b4 0)∧tm 89=(vN x10)∧tm 90=vi x11) (fun k16=>?_) ?_
    ·refine bx h72 (fun q37=>?_) (fun q37=>?_)
     ·replace e8:=ax q37 e8
      refine af (aa h65 (ak 0 s36 rfl h69 rfl rfl (dz Mk.kE2 (q:=(x13,x14)) (v:=true) 5 s36 rfl rfl rfl rfl rfl rfl fun H30 s38=>ae (bq (aa h64 (ak 1 s38 rfl h68 rfl rfl (bP (s:=Sh.ro Sh.J4) (us:=[vi x13,vi x14,vi s13.2.2,vi x11]) (qs:=[(0,4,(.agg #[vi x13,vi x14,vi s13.2.2,vi x11]))]) (xs:=[(Ty.J4.mk x13 x14 s13.2.2 x11)]) s38 (Sh.ro_lt _) rfl rfl rfl (Els.cons (c:=[vi x13,vi x14,vi s13.2.2,vi x11]) rfl Els.nil) rfl rfl fun w10 H31 s39=>?_)))))))
      obtain⟨Z15,V15,g15,s40,h81⟩:=s39.frzS 0 rfl
      replace h81:=h81.of_ro
      obtain⟨x15,q38,e8⟩:=oB e8
      refine cn 4 s40 rfl (Sh.ro_lt _) rfl rfl rfl rfl h81 s40.z (fun h=>h) (by decide) q38 fun w11 H32 s41=>aa (v:=w11) rfl (ae ?_)
      obtain rfl:=oJ e8
      exact k16 _ _ ⟨_,_,_,g15,(s41.pick [2,3,4,5,6] rfl),h62,h63,rfl,h65,h66,h67,h70,h71⟩
     replace e8:=aS q37 e8
     refine ar ?_
     obtain rfl:=oJ e8
     exact k16 _ _ ⟨_,_,_,Gw.refl _ _,(s36.pick [2,3,4,5,6] rfl),h62,h63,h64,h65,h66,h67,h70,h71⟩
    intro _ H29 i16
    obtain⟨Z14,V14,w9,g14,s37,h73,h74,h75,h76,h77,h78,h79,h80⟩:=i16
    refine aF (bq (az h80 rfl (aa (v:=vi (Pu.W (x11+1))) rfl (ae ?_))))
    obtain rfl:=oJ e7
    exact k11 _ _ ⟨(iv rfl (bU q28 q32)),_,_,_,(g11.trans (g12.trans (g13.trans g14))),s37,h73,h74,h75,h76,h77,h78,h79⟩
   obtain⟨hte1,Z16,V16,w12,g16,s42,h82,h83,h84,h85,h86,h87,h88⟩:=jd
   refine af (ao hte1 h88 (ae (ah (bc rfl (bA _) (aR (aU (aU (bT (aF (bq (aa h86 (az rfl rfl (aa (v:=vi (Pu.W (s13.2.2+1))) rfl (ae ?_))))))))))))))
   exact k5 _ _ _ (sJ e3) ⟨_,_,_,(g5.trans (g7.trans (g8.trans (g9.trans g16)))),(s42.pick [0,1,2,3] rfl),h82,h83,h84,h85,rfl⟩
  replace e3:=bb q14 e3
  refine aR (aU (aU (bT ?_)))
  exact k8 _ _ ⟨_,k6 _ (sJ e3),_,_,_,g5,s14,h13,h14,h15,h16,h17⟩
 intro _ H13 i17
 obtain⟨s15,f1,Z6,V6,w5,g6,s16,h18,h19,h20,h21,h22⟩:=i17
 replace e:=bD f1 e
 refine af (aa (v:=.slice none 0 0) rfl (aa (v:=.bool false) rfl (ae (aL ?_))))
 obtain rfl:=oJ e
 exact⟨.inr rfl,_,(ar2 rfl rfl),_,rfl,(((s16.push (aW (s:=Sh.int))).pick [0] rfl).weak (g1.trans (g2.trans (g4.trans g6))) hs.zv)⟩
structure Nd.D3 (T:FuncId→Option AFunc):Prop where
 own:Has T I.D3 F.D3
 F5:Nd.F5 T
 J7:Nd.J7 T
 E5:Nd.E5 T
 D2:Nd.D2 T
 E4:Nd.E4 T
theorem X.D3 {T:FuncId→Option AFunc}(nd:Nd.D3 T){φ:Nat}{Z V:PH}{H:Hp}{v1:Value}{a0:(List Int)}(hs:Sat Z V H [])(hp1:RdS Sh.int Z v1 a0){r:Bool}(e:P.D3 φ a0=some r):
 G T I.D3 [v1] H (fun rv H'=>rv=(.bool r)∧Sat Z V H' []):=by
 unfold P.D3 at e
 refine bB nd.own (af (aa (v:=.bool false) rfl (ae (af (aa (v:=v1) rfl ?_)))))
 obtain⟨x1,q1,e⟩:=oB e
 obtain⟨Z1,V1,W1,g1,u1,c1,c2,-,c4,c3⟩:=Sat.call (l1:=[]) hs
 refine au (mc rfl m0) (X.F5 nd.F5 c1 (hp1.mono g1.z) q1) fun _ H1 i1=>?_
 obtain⟨w1,w2,rfl,s1⟩:=i1
 have s2:=c3 _ _ s1
 refine bv s2 fun b1 H2 s3=>?_
 obtain⟨d1,rfl⟩:=((s3.curS (s:=Sh.int) 1 rfl)).val
 obtain⟨d2,rfl⟩:=((s3.curS (s:=sI1) 2 rfl)).val
 refine aP (us':=[vi x1.Start,(vS d1 x1.Accept),(vS d2 x1.Next)]) 0 s3 rfl rfl rfl rfl rfl rfl rfl fun H3 s4=>ae (ah (af ?_))
 obtain⟨x2,q2,e⟩:=oB e
 obtain⟨Z2,V2,W2,g2,u2,c5,c6,-,c8,c7⟩:=Sat.call (l1:=[]) s4
 refine au m0 (X.J7 nd.J7 c5 q2) fun _ H4 i2=>?_
 obtain⟨w3,rfl,s5⟩:=i2
 have s6:=c7 _ _ s5
 obtain⟨Z3,V3,g3,s7,h1⟩:=s6.frzS 0 rfl
 replace h1:=h1.of_ro
 obtain⟨x3,q3,e⟩:=oB e
 obtain⟨Z4,V4,W3,g4,u3,c9,c10,-,c12,c11⟩:=Sat.call (l1:=[]) s7
 refine au (mc rfl m0) (X.E5 nd.E5 c9 (h1.mono g4.z) q3) fun _ H5 i3=>?_
 obtain⟨w4,w5,rfl,s8⟩:=i3
 have s9:=c11 _ _ s8
 refine aa (v:=.tuple #[(.agg #[vi x3.1.Start,w4,w5]),(.bool x3.2.1),vi x3.2.2]) rfl (bH rfl rfl (bH rfl rfl (bH rfl rfl (bv s9 fun b2 H6 s10=>?_))))
 obtain⟨d3,rfl⟩:=((s10.curS (s:=Sh.int) 1 rfl)).val
 obtain⟨d4,rfl⟩:=((s10.curS (s:=sI1) 2 rfl)).val
 refine aP (us':=[vi x3.1.Start,(vS d3 x3.1.Accept),(vS d4 x3.1.Next)]) 0 s10 rfl rfl rfl rfl rfl rfl rfl fun H7 s11=>aa (v:=.bool x3.2.1) rfl (aa (v:=vi x3.2.2) rfl (ae (ap (P:=fun tm=>tm 3=(pV b1 0)∧tm 4=(pV b2 0)∧tm 5=(.bool x3.2.1)∧tm 6=vi x3.2.2∧True) ⟨rfl,rfl,rfl,rfl,trivial⟩ ?_)))
 intro _ i4
 obtain⟨h2,h3,h4,h5,-⟩:=i4
 refine af (aa h5 (cQ rfl rfl (aa (v:=.bool (decide (x3.2.2≠0))) rfl (cv 3 (I:=fun tm H=>tm 27= .bool ((decide (x3.2.2≠0)) ||(!x3.2.1))∧(∃(Z5 V5:PH),Gw Z4 V4 Z5 V5∧Sat Z5 V5 H [pts b1 (.rw 0 [vi x1.Start,(vS d1 x1.Accept),(vS d2 x1.Next)]),Is Sh.int d1 x1.Accept,Is sI1 d2 x1.Next,pts b2 (.rw 0 [vi x3.1.Start,(vS d3 x3.1.Accept),(vS d4 x3.1.Next)]),Is Sh.int d3 x3.1.Accept,Is sI1 d4 x3.1.Next]∧tm 3=(pV b1 0)∧tm 4=(pV b2 0))) (fun k1=>?_) ?_))))
 ·rcases Bool.eq_false_or_eq_true (decide (x3.2.2≠0)) with q4|q4
  ·refine aE rfl q4 (aE rfl q4 (aY (a:=.bool true) rfl q4 rfl ?_))
   exact k1 _ _ ⟨gf rfl (by first|(rw [q4];first|done|rfl)|simp [q4]),_,_,Gw.refl _ _,(s11.pick [3,4,5,0,1,2] rfl),h2,h3⟩
  refine aC rfl q4 (aa h4 (aC rfl q4 (cy rfl (aX (b:=.bool (!x3.2.1)) rfl q4 rfl ?_))))
  exact k1 _ _ ⟨gf rfl (by first|(rw [q4];first|done|rfl)|simp [q4]),_,_,Gw.refl _ _,(s11.pick [3,4,5,0,1,2] rfl),h2,h3⟩
 intro _ H8 i5
 obtain⟨h8,Z5,V5,g5,s12,h6,h7⟩:=i5
 refine aa h8 (cv 5 (I:=fun tm H=>tm 33= .bool (((decide (x3.2.2≠0)) ||(!x3.2.1)) ||(decide ((x3.1.Next.length:Int)≠2)))∧(∃(Z6 V6:PH),Gw Z5 V5 Z6 V6∧Sat Z6 V6 H [pts b1 (.rw 0 [vi x1.Start,(vS d1 x1.Accept),(vS d2 x1.Next)]),Is Sh.int d1 x1.Accept,Is sI1 d2 x1.Next]∧tm 3=(pV b1 0))) (fun k2=>?_) ?_)
 ·rcases Bool.eq_false_or_eq_true ((decide (x3.2.2≠0)) ||(!x3.2.1)) with q5|q5
  ·refine aE rfl q5 (aE rfl q5 (aE rfl q5 (aE rfl q5 (aY (a:=.bool true) rfl q5 rfl ?_))))
   exact k2 _ _ ⟨gf rfl (by first|(rw [q5];first|done|rfl)|simp [q5]),_,_,Gw.refl _ _,(s12.pick [0,1,2] rfl),h6⟩
  refine aC rfl q5 (am h7 (aC rfl q5 (ak 3 s12 rfl rfl rfl rfl (aC rfl q5 (aD rfl ((s12.curS (s:=sI1) 5 rfl)).len (aC rfl q5 (cQ rfl rfl (aX (b:=.bool (decide ((x3.1.Next.length:Int)≠2))) rfl q5 rfl ?_))))))))
  exact k2 _ _ ⟨gf rfl (by first|(rw [q5];first|done|rfl)|simp [q5]),_,_,Gw.refl _ _,(s12.pick [0,1,2] rfl),h6⟩
 intro _ H9 i6
 obtain⟨h10,Z6,V6,g6,s13,h9⟩:=i6
 refine ae (bx h10 (fun q6=>?_) (fun q6=>?_))
 ·replace e:=ax q6 e
  refine af (aa (v:=.bool false) rfl (ae (aL ?_)))
  obtain rfl:=oJ e
  exact⟨.inr rfl,_,(ar1 rfl),rfl,((s13.pick [] rfl).weak (g1.trans (g2.trans (g3.trans (g4.trans (g5.trans g6))))) hs.zv)⟩
 replace e:=aS q6 e
 refine ar (af (ak 0 s13 rfl h9 rfl rfl ?_))
 obtain⟨x4,q7,e⟩:=oB e
 obtain⟨Z7,V7,W4,g7,u4,c13,c14,-,c16,c15⟩:=Sat.call (l1:=[]) s13
 refine au (mc rfl m0) (X.D2 nd.D2 c13 (c14 1 _ Sh.int _ _ rfl) (c14 2 _ sI1 _ _ rfl) q7) fun _ H10 i7=>?_
 obtain⟨w6,rfl,s14⟩:=i7
 have s15:=c15 _ _ s14
 refine aa (v:=.tuple #[(.agg #[vi x4.1.Terms,vi x4.1.Nons,vi x4.1.Start,w6]),vi x4.2]) rfl (bH rfl rfl (bH rfl rfl (bv s15 fun b3 H11 s16=>?_)))
 obtain⟨d5,rfl⟩:=((s16.curS (s:=Sh.ro Sh.E2) 1 rfl)).val
 refine aP (us':=[vi x4.1.Terms,vi x4.1.Nons,vi x4.1.Start,(vS d5 x4.1.Rules)]) 0 s16 rfl rfl rfl rfl rfl rfl rfl fun H12 s17=>aa (v:=vi x4.2) rfl (ae (ah (af (aa (v:=vi x4.2) rfl (cQ rfl rfl (ae (aI rfl (fun q8=>?_) (fun q8=>?_))))))))
 ·replace e:=ax q8 e
  refine af (aa (v:=.bool true) rfl (ae (ap (P:=fun tm=>tm 2=(.bool true)∧True) ⟨rfl,trivial⟩ ?_)))
  intro _ i8
  obtain⟨h11,-⟩:=i8
  refine aL ?_
  obtain rfl:=oJ e
  exact⟨.inr rfl,_,(ar1 h11),rfl,((s17.pick [] rfl).weak (g1.trans (g2.trans (g3.trans (g4.trans (g5.trans (g6.trans g7)))))) hs.zv)⟩
 replace e:=bb q8 e
 refine ar (af (ak 0 s17 rfl rfl rfl rfl ?_))
 obtain⟨Z8,V8,g8,s18,h12⟩:=s17.frzS 1 rfl
 replace h12:=h12.of_ro
 obtain⟨x5,q9,e⟩:=oB e
 obtain⟨Z9,V9,W5,g9,u5,c17,c18,-,c20,c19⟩:=Sat.call (l1:=[]) s18
 refine au (mc rfl m0) (X.E5 nd.E5 c17 (h12.mono g9.z) q9) fun _ H13 i9=>?_
 obtain⟨w7,w8,rfl,s19⟩:=i9
 have s20:=c19 _ _ s19
 refine aa (v:=.tuple #[(.agg #[vi x5.1.Start,w7,w8]),(.bool x5.2.1),vi x5.2.2]) rfl (bH rfl rfl (bH rfl rfl (bH rfl rfl (bv s20 fun b4 H14 s21=>?_))))
 obtain⟨d6,rfl⟩:=((s21.curS (s:=Sh.int) 1 rfl)).val
 obtain⟨d7,rfl⟩:=((s21.curS (s:=sI1) 2 rfl)).val
 refine aP (us':=[vi x5.1.Start,(vS d6 x5.1.Accept),(vS d7 x5.1.Next)]) 0 s21 rfl rfl rfl rfl rfl rfl rfl fun H15 s22=>aa (v:=.bool x5.2.1) rfl (aa (v:=vi x5.2.2) rfl (ae (ap (P:=fun tm=>tm 3=(pV b1 0)∧tm 9=(pV b4 0)∧tm 10=(.bool x5.2.1)∧tm 11=vi x5.2.2∧True) ⟨h9,rfl,rfl,rfl,trivial⟩ ?_)))
 intro _ i10
 obtain⟨h13,h14,h15,h16,-⟩:=i10
 refine ah (af (aa h16 (co rfl rfl (ae (aI rfl (fun q10=>?_) (fun q10=>?_))))))
 ·replace e:=ax q10 e
  refine af (aa (v:=.bool true) rfl (ae (aL ?_)))
  obtain rfl:=oJ e
  exact⟨.inr rfl,_,(ar1 rfl),rfl,((s22.pick [] rfl).weak (g1.trans (g2.trans (g3.trans (g4.trans (g5.trans (g6.trans (g7.trans (g8.trans g9)))))))) hs.zv)⟩
 replace e:=bb q10 e
 refine ar (ah (af (aa h16 (cQ rfl rfl (aa (v:=.bool (decide (x5.2.2≠0))) rfl (cv 3 (I:=fun tm H=>tm 54= .bool ((decide (x5.2.2≠0)) ||(!x5.2.1))∧(∃(Z10 V10:PH),Gw Z9 V9 Z10 V10∧Sat Z10 V10 H [pts b1 (.rw 0 [vi x1.Start,(vS d1 x1.Accept),(vS d2 x1.Next)]),Is Sh.int d1 x1.Accept,Is sI1 d2 x1.Next,pts b4 (.rw 0 [vi x5.1.Start,(vS d6 x5.1.Accept),(vS d7 x5.1.Next)]),Is Sh.int d6 x5.1.Accept,Is sI1 d7 x5.1.Next]∧tm 3=(pV b1 0)∧tm 9=(pV b4 0))) (fun k3=>?_) ?_))))))
 ·rcases Bool.eq_false_or_eq_true (decide (x5.2.2≠0)) with q11|q11
  ·refine aE rfl q11 (aE rfl q11 (aY (a:=.bool true) rfl q11 rfl ?_))
   exact k3 _ _ ⟨gf rfl (by first|(rw [q11];first|done|rfl)|simp [q11]),_,_,Gw.refl _ _,(s22.pick [4,5,6,0,1,2] rfl),h13,h14⟩
  refine aC rfl q11 (aa h15 (aC rfl q11 (cy rfl (aX (b:=.bool (!x5.2.1)) rfl q11 rfl ?_))))
  exact k3 _ _ ⟨gf rfl (by first|(rw [q11];first|done|rfl)|simp [q11]),_,_,Gw.refl _ _,(s22.pick [4,5,6,0,1,2] rfl),h13,h14⟩
 intro _ H16 i11
 obtain⟨h19,Z10,V10,g10,s23,h17,h18⟩:=i11
 refine ae (bx h19 (fun q12=>?_) (fun q12=>?_))
 ·replace e:=ax q12 e
  refine af (aa (v:=.bool false) rfl (ae (aL ?_)))
  obtain rfl:=oJ e
  exact⟨.inr rfl,_,(ar1 rfl),rfl,((s23.pick [] rfl).weak (g1.trans (g2.trans (g3.trans (g4.trans (g5.trans (g6.trans (g7.trans (g8.trans (g9.trans g10))))))))) hs.zv)⟩
 replace e:=aS q12 e
 refine ar (af (ak 3 s23 rfl h18 rfl rfl (ak 0 s23 rfl h17 rfl rfl ?_)))
 obtain⟨x6,q13,e⟩:=oB e
 obtain⟨Z11,V11,W6,g11,u6,c21,c22,-,c24,c23⟩:=Sat.call (l1:=[]) s23
 refine au (mc rfl (mc rfl m0)) (X.E4 nd.E4 c21 (c22 4 _ Sh.int _ _ rfl) (c22 5 _ sI1 _ _ rfl) (c22 1 _ Sh.int _ _ rfl) (c22 2 _ sI1 _ _ rfl) q13) fun _ H17 i12=>?_
 obtain⟨w9,rfl,s24⟩:=i12
 have s25:=c23 _ _ s24
 refine aa (v:=.tuple #[w9,(.bool x6.2)]) rfl (bH rfl rfl (bH rfl rfl (aa (v:=w9) rfl (aa (v:=.bool x6.2) rfl (ae (af (aa (v:=.bool x6.2) rfl (cy rfl (aa (v:=.bool (!x6.2)) rfl (ae (ap (P:=fun tm=>tm 2=(.bool (!x6.2))∧True) ⟨rfl,trivial⟩ ?_)))))))))))
 intro _ i13
 obtain⟨h20,-⟩:=i13
 refine aL ?_
 obtain rfl:=oJ e
 exact⟨.inr rfl,_,(ar1 h20),rfl,((s25.pick [] rfl).weak (g1.trans (g2.trans (g3.trans (g4.trans (g5.trans (g6.trans (g7.trans (g8.trans (g9.trans (g10.trans g11)))))))))) hs.zv)⟩
end Go.Proofs.Ytmfkjilndpchbaa
