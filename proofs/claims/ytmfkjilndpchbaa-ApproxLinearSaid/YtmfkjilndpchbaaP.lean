import Derived.Test.YtmfkjilndpchbaaTy
namespace Go.Proofs.Ytmfkjilndpchbaa
open Go Go.Ab
def P.G8 (a0:Int):Option Bool:=
 some (decide (a0≠a0))
def P.F1 (a0:Int)(a1:Int):Option Int:=
 (P.G8 a0).bind fun x1=>
 (P.G8 a1).bind fun x2=>
 if x1 then
  if x2 then
   some 0
  else
   some (-1)
 else
  if x2 then
   some 1
  else
   if a0<a1 then
    some (-1)
   else
    if a1<a0 then
     some 1
    else
     some 0
def P.J9 (a0:Ty.F2)(a1:Ty.F2):Option Int:=
 if(a0.Term&&(!a1.Term)) then
  some (-1)
 else
  if((!a0.Term)&&a1.Term) then
   some 1
  else
   (P.F1 a0.N a1.N).bind fun x1=>
   some x1
def P.D6.b0 (a1:(List Ty.F2))(i1:Int)(x1:Ty.F2)(_:Unit):Option (Pu.Step Unit Int):=
 if(a1.length:Int)≤(i1:Int) then
  some (Pu.Step.rt 1)
 else
  (Pu.ix a1 (i1:Int)).bind fun x2=>
  (P.J9 x1 x2).bind fun x3=>
  if x3≠0 then
   some (Pu.Step.rt x3)
  else
   some (Pu.Step.nx ())
def P.D6 (a0:(List Ty.F2))(a1:(List Ty.F2)):Option Int:=
 (Pu.forL (P.D6.b0 a1) 0 a0 ()).bind fun y1=>
 y1.cs (fun _=>
  if(a0.length:Int)<(a1.length:Int) then
   some (-1)
  else
   some 0) (fun r=>some r)
def P.J8 (a0:Ty.E2)(a1:Ty.E2):Option Int:=
 (P.F1 a0.Left a1.Left).bind fun x1=>
 if x1≠0 then
  some x1
 else
  (P.D6 a0.Right a1.Right).bind fun x2=>
  some x2
def P.E1.b2 (x1:Ty.E2)(_:Int)(x4:Ty.E2)(_:Unit):Option (Pu.Step Unit (Pu.Step Unit Int)):=
 (P.J8 x4 x1).bind fun x5=>
 if x5=0 then
  some (Pu.Step.rt (Pu.Step.rt 6))
 else
  some (Pu.Step.nx ())
def P.E1.b1 (a0:Ty.E8)(_:Int)(x2:Ty.F2)(_:Unit):Option (Pu.Step Unit (Pu.Step Unit Int)):=
 (if decide (x2.N<0) then
     some true
   else
    some (x2.Term&&(decide (a0.Terms≤x2.N)))).bind fun y5=>
 (if y5 then
     some true
   else
    some ((!x2.Term)&&(decide (a0.Nons≤x2.N)))).bind fun y6=>
 if y6 then
  some (Pu.Step.rt (Pu.Step.rt 3))
 else
  some (Pu.Step.nx ())
def P.E1.b0 (a0:Ty.E8)(i6:Int)(x1:Ty.E2)(_:Unit):Option (Pu.Step Unit Int):=
 if((decide (x1.Left<0)) ||(decide (a0.Nons≤x1.Left))) then
  some (Pu.Step.rt 3)
 else
  if 4<(x1.Right.length:Int) then
   some (Pu.Step.rt 2)
  else
   (Pu.forL (P.E1.b1 a0) 0 x1.Right ()).bind fun y3=>
   y3.cs (fun _=>
    (Pu.sub a0.Rules 0 (i6:Int)).bind fun x3=>
    (Pu.forL (P.E1.b2 x1) 0 x3 ()).bind fun y7=>
    y7.cs (fun _=>
     some (Pu.Step.nx ())) (fun r=>some r)) (fun r=>some r)
def P.E1 (a0:Ty.E8):Option Int:=
 if((((((decide (a0.Terms<1)) ||(decide (8<a0.Terms))) ||(decide (a0.Nons<1))) ||(decide (10<a0.Nons))) ||(decide (a0.Start<0))) ||(decide (a0.Nons≤a0.Start))) then
  some 1
 else
  if 32<(a0.Rules.length:Int) then
   some 2
  else
   (Pu.forL (P.E1.b0 a0) 0 a0.Rules ()).bind fun y1=>
   y1.cs (fun _=>
    some 0) (fun r=>some r)
def P.E6.b0 (a0:(List Int))(a1:Int)(_:Int)(x1:Int)(_:Unit):Option (Pu.Step Unit Int):=
 (Pu.ix a0 x1).bind fun x3=>
 if a1=x3 then
  some (Pu.Step.rt x1)
 else
  some (Pu.Step.nx ())
def P.E6 (a0:(List Int))(a1:Int):Option Int:=
 (Pu.ranO (a0.length:Int)).bind fun x2=>
 (Pu.forL (P.E6.b0 a0 a1) 0 x2 ()).bind fun y1=>
 y1.cs (fun _=>
  some (-1)) (fun r=>some r)
def P.C4 (a0:(List Int))(a1:Int):Option Bool:=
 (P.E6 a0 a1).bind fun x1=>
 some (decide (0≤x1))
def P.F3.b1 (a1:(List Int))(x1:Ty.E2)(i4:Int)(x3:Ty.F2)(s9:(Bool×Bool)):Option (Bool×Bool):=
 (if x3.Term then
     some true
   else
    (P.C4 a1 x3.N).bind fun x4=>
    some (!x4)).bind fun y3=>
 if y3 then
  some (s9.1,s9.2)
 else
  some ((s9.1&&(decide ((i4:Int)=(Pu.W ((x1.Right.length:Int)-1))))),(s9.2&&(decide ((i4:Int)=0))))
def P.F3.b0 (a1:(List Int))(_:Int)(x1:Ty.E2)(s2:(Bool×Bool)):Option (Bool×Bool):=
 (P.C4 a1 x1.Left).bind fun x2=>
 if !x2 then
  some (s2.1,s2.2)
 else
  (Pu.forP (P.F3.b1 a1 x1) 0 x1.Right (s2.1,s2.2)).bind fun y2=>
  some (y2.1,y2.2)
def P.F3 (a0:Ty.E8)(a1:(List Int)):Option Int:=
 (Pu.forP (P.F3.b0 a1) 0 a0.Rules (true,true)).bind fun y1=>
 if y1.1 then
  some 0
 else
  if y1.2 then
   some 1
  else
   some 2
def P.A9.b7 (x28:Int)(y5:(List (List Bool)))(_:Int)(x31:Int)(s49:((List Bool)×(List Int))):Option ((List Bool)×(List Int)):=
 (Pu.ix y5 x28).bind fun x33=>
 (Pu.ix x33 x31).bind fun x34=>
 (if x34 then
     (Pu.ix y5 x31).bind fun x35=>
     (Pu.ix x35 x28).bind fun x36=>
     some x36
   else
    some false).bind fun y12=>
 (if y12 then
     (Pu.app 8 s49.2 [x31]).bind fun x37=>
     (Pu.ix s49.1 x31).bind fun _=>
     some ((Pu.st s49.1 x31 true),x37)
   else
    some (s49.1,s49.2)).bind fun y13=>
 some (y13.1,y13.2)
def P.A9.b6 (a0:Ty.E8)(y5:(List (List Bool)))(_:Int)(x28:Int)(s44:((List Ty.B6)×(List Bool))):Option ((List Ty.B6)×(List Bool)):=
 (Pu.ix s44.2 x28).bind fun x30=>
 if x30 then
  some (s44.1,s44.2)
 else
  (Pu.ranO (y5.length:Int)).bind fun x32=>
  (Pu.forP (P.A9.b7 x28 y5) 0 x32 (s44.2,[])).bind fun y11=>
  (P.F3 a0 y11.2).bind fun x39=>
  (Pu.app 32 s44.1 [(Ty.B6.mk x39 y11.2)]).bind fun x40=>
  some (x40,y11.1)
def P.A9.b5 (x13:Int)(x15:Int)(_:Int)(x17:Int)(s33:(List (List Bool))):Option (List (List Bool)):=
 (Pu.ix s33 x15).bind fun x19=>
 (Pu.ix s33 x15).bind fun x20=>
 (Pu.ix x20 x17).bind fun x21=>
 (if x21 then
     some true
   else
    (Pu.ix s33 x15).bind fun x22=>
    (Pu.ix x22 x13).bind fun x23=>
    (if x23 then
        (Pu.ix s33 x13).bind fun x24=>
        (Pu.ix x24 x17).bind fun x25=>
        some x25
      else
       some false).bind fun y9=>
    some y9).bind fun y8=>
 (Pu.ix x19 x17).bind fun _=>
 some (Pu.st s33 x15 (Pu.st x19 x17 y8))
def P.A9.b4 (x13:Int)(_:Int)(x15:Int)(s30:(List (List Bool))):Option (List (List Bool)):=
 (Pu.ranO (s30.length:Int)).bind fun x18=>
 (Pu.forP (P.A9.b5 x13 x15) 0 x18 s30).bind fun y7=>
 some y7
def P.A9.b3 (_:Int)(x13:Int)(s27:(List (List Bool))):Option (List (List Bool)):=
 (Pu.ranO (s27.length:Int)).bind fun x16=>
 (Pu.forP (P.A9.b4 x13) 0 x16 s27).bind fun y6=>
 some y6
def P.A9.b2 (x9:Ty.E2)(_:Int)(x10:Ty.F2)(s17:(List (List Bool))):Option (List (List Bool)):=
 (if !x10.Term then
     (Pu.ix s17 x9.Left).bind fun x11=>
     (Pu.ix x11 x10.N).bind fun _=>
     some (Pu.st s17 x9.Left (Pu.st x11 x10.N true))
   else
    some s17).bind fun y4=>
 some y4
def P.A9.b1 (_:Int)(x9:Ty.E2)(s12:(List (List Bool))):Option (List (List Bool)):=
 (Pu.forP (P.A9.b2 x9) 0 x9.Right s12).bind fun y3=>
 some y3
def P.A9.b0 (a0:Ty.E8)(_:Int)(x3:Int)(s5:(List (List Bool))):Option (List (List Bool)):=
 (Pu.mk 1 a0.Nons a0.Nons false).bind fun x5=>
 (Pu.ix s5 x3).bind fun _=>
 (Pu.ix (Pu.st s5 x3 x5) x3).bind fun x7=>
 (Pu.ix x7 x3).bind fun _=>
 some (Pu.st (Pu.st s5 x3 x5) x3 (Pu.st x7 x3 true))
def P.A9 (a0:Ty.E8):Option ((List Ty.B6)×Int):=
 (P.E1 a0).bind fun x1=>
 if x1≠0 then
  some ([],x1)
 else
  (Pu.mk 24 a0.Nons a0.Nons []).bind fun x2=>
  (Pu.ranO (x2.length:Int)).bind fun x4=>
  (Pu.forP (P.A9.b0 a0) 0 x4 x2).bind fun y1=>
  (Pu.forP (P.A9.b1) 0 a0.Rules y1).bind fun y2=>
  (Pu.ranO (y2.length:Int)).bind fun x14=>
  (Pu.forP (P.A9.b3) 0 x14 y2).bind fun y5=>
  (Pu.mk 1 a0.Nons a0.Nons false).bind fun x27=>
  (Pu.ranO (y5.length:Int)).bind fun x29=>
  (Pu.forP (P.A9.b6 a0 y5) 0 x29 ([],x27)).bind fun y10=>
  some (y10.1,0)
def P.E7.b2 (x4:Ty.E2)(_:Int)(x5:Ty.F2)(s13:((List Bool)×Bool)):Option ((List Bool)×Bool):=
 (Pu.ix s13.1 x4.Left).bind fun x6=>
 (if(x6&&(!x5.Term)) then
    (Pu.ix s13.1 x5.N).bind fun x7=>
    some (!x7)
   else
    some false).bind fun y5=>
 (if y5 then
     (Pu.ix s13.1 x5.N).bind fun _=>
     some ((Pu.st s13.1 x5.N true),true)
   else
    some (s13.1,s13.2)).bind fun y6=>
 some (y6.1,y6.2)
def P.E7.b1 (_:Int)(x4:Ty.E2)(s8:((List Bool)×Bool)):Option ((List Bool)×Bool):=
 (Pu.forP (P.E7.b2 x4) 0 x4.Right (s8.1,s8.2)).bind fun y4=>
 some (y4.1,y4.2)
def P.E7.b0 (a0:Ty.E8)(s4:((List Bool)×Bool)):Option (Pu.Step ((List Bool)×Bool) Unit):=
 if s4.2 then
  (Pu.forP (P.E7.b1) 0 a0.Rules (s4.1,false)).bind fun y3=>
  some (Pu.Step.nx (y3.1,y3.2))
 else
  some (Pu.Step.br (s4.1,s4.2))
def P.E7 (φ:Nat)(a0:Ty.E8):Option (List Bool):=
 (Pu.mk 1 a0.Nons a0.Nons false).bind fun x1=>
 (Pu.ix x1 a0.Start).bind fun _=>
 (Pu.whl (P.E7.b0 a0) φ ((Pu.st x1 a0.Start true),true)).bind fun y1=>
 y1.cs (fun s6=>
  some s6.1) (fun _=>none)
def P.F6 (a0:Ty.G3):Option (Ty.G3×Int):=
 (Pu.app 24 a0.next_ [[]]).bind fun x1=>
 some ((Ty.G3.mk a0.g a0.of_ x1),(Pu.W ((x1.length:Int)-1)))
def P.F8 (a0:Ty.G3)(a1:Int)(a2:Int)(a3:Int):Option Ty.G3:=
 (Pu.ix a0.next_ a1).bind fun x1=>
 (Pu.app 16 x1 [(Ty.C9.mk a2 a3)]).bind fun x2=>
 (Pu.ix a0.next_ a1).bind fun _=>
 some (Ty.G3.mk a0.g a0.of_ (Pu.st a0.next_ a1 x2))
def P.B4.b2 (rf_approx_nfa_path:(Ty.G3)→(Int)→((List Ty.F2))→(Int)→Option Ty.G3)(x1:Ty.B6)(x9:Ty.E2)(y1:(Int×Int×Int×(List Ty.E2)×(List Ty.B6)×(List (List Ty.C9))×(List (Int×Int))×(List (Int×Int))))(i28:Int)(x22:Ty.F2)(s67:(Int×Int×Int×(List Ty.E2)×(List Ty.B6)×(List (List Ty.C9))×Int×Int)):Option (Int×Int×Int×(List Ty.E2)×(List Ty.B6)×(List (List Ty.C9))×Int×Int):=
 (if !x22.Term then
     (P.C4 x1.Nons x22.N).bind fun x23=>
     some x23
   else
    some false).bind fun y15=>
 (if y15 then
     (Pu.sub x9.Right s67.2.2.2.2.2.2.2 (i28:Int)).bind fun x24=>
     (rf_approx_nfa_path (Ty.G3.mk (Ty.E8.mk s67.1 s67.2.1 s67.2.2.1 s67.2.2.2.1) s67.2.2.2.2.1 s67.2.2.2.2.2.1) s67.2.2.2.2.2.2.1 x24 ((Pu.mget x22.N y1.2.2.2.2.2.2.1).getD 0)).bind fun x25=>
     some (x25.g.Terms,x25.g.Nons,x25.g.Start,x25.g.Rules,x25.of_,x25.next_,((Pu.mget x22.N y1.2.2.2.2.2.2.2).getD 0),(Pu.W ((i28:Int)+1)))
   else
    some (s67.1,s67.2.1,s67.2.2.1,s67.2.2.2.1,s67.2.2.2.2.1,s67.2.2.2.2.2.1,s67.2.2.2.2.2.2.1,s67.2.2.2.2.2.2.2)).bind fun y16=>
 some (y16.1,y16.2.1,y16.2.2.1,y16.2.2.2.1,y16.2.2.2.2.1,y16.2.2.2.2.2.1,y16.2.2.2.2.2.2.1,y16.2.2.2.2.2.2.2)
def P.B4.b1 (rf_approx_nfa_path:(Ty.G3)→(Int)→((List Ty.F2))→(Int)→Option Ty.G3)(a2:Int)(a3:Int)(x1:Ty.B6)(y1:(Int×Int×Int×(List Ty.E2)×(List Ty.B6)×(List (List Ty.C9))×(List (Int×Int))×(List (Int×Int))))(_:Int)(x9:Ty.E2)(s38:(Int×Int×Int×(List Ty.E2)×(List Ty.B6)×(List (List Ty.C9)))):Option (Int×Int×Int×(List Ty.E2)×(List Ty.B6)×(List (List Ty.C9))):=
 if !((Pu.mget x9.Left y1.2.2.2.2.2.2.1).isSome) then
  some (s38.1,s38.2.1,s38.2.2.1,s38.2.2.2.1,s38.2.2.2.2.1,s38.2.2.2.2.2)
 else
  (if x1.Kind=0 then
      (if decide (0≤(Pu.W ((x9.Right.length:Int)-1))) then
          (Pu.ix x9.Right (Pu.W ((x9.Right.length:Int)-1))).bind fun x10=>
          some (!x10.Term)
        else
         some false).bind fun y7=>
      (if y7 then
          (Pu.ix x9.Right (Pu.W ((x9.Right.length:Int)-1))).bind fun x11=>
          (P.C4 x1.Nons x11.N).bind fun x12=>
          some x12
        else
         some false).bind fun y8=>
      (if y8 then
          (Pu.ix x9.Right (Pu.W ((x9.Right.length:Int)-1))).bind fun x13=>
          (Pu.sub x9.Right 0 (Pu.W ((x9.Right.length:Int)-1))).bind fun x14=>
          some (x14,((Pu.mget x13.N y1.2.2.2.2.2.2.1).getD 0))
        else
         some (x9.Right,a3)).bind fun y9=>
      (rf_approx_nfa_path (Ty.G3.mk (Ty.E8.mk s38.1 s38.2.1 s38.2.2.1 s38.2.2.2.1) s38.2.2.2.2.1 s38.2.2.2.2.2) ((Pu.mget x9.Left y1.2.2.2.2.2.2.1).getD 0) y9.1 y9.2).bind fun x15=>
      some (x15.g.Terms,x15.g.Nons,x15.g.Start,x15.g.Rules,x15.of_,x15.next_)
    else
     (if x1.Kind=1 then
         (if decide (0<(x9.Right.length:Int)) then
             (Pu.ix x9.Right 0).bind fun x16=>
             some (!x16.Term)
           else
            some false).bind fun y11=>
         (if y11 then
             (Pu.ix x9.Right 0).bind fun x17=>
             (P.C4 x1.Nons x17.N).bind fun x18=>
             some x18
           else
            some false).bind fun y12=>
         (if y12 then
             (Pu.ix x9.Right 0).bind fun x19=>
             (Pu.sub x9.Right 1 x9.Right.length).bind fun x20=>
             some (x20,((Pu.mget x19.N y1.2.2.2.2.2.2.1).getD 0))
           else
            some (x9.Right,a2)).bind fun y13=>
         (rf_approx_nfa_path (Ty.G3.mk (Ty.E8.mk s38.1 s38.2.1 s38.2.2.1 s38.2.2.2.1) s38.2.2.2.2.1 s38.2.2.2.2.2) y13.2 y13.1 ((Pu.mget x9.Left y1.2.2.2.2.2.2.1).getD 0)).bind fun x21=>
         some (x21.g.Terms,x21.g.Nons,x21.g.Start,x21.g.Rules,x21.of_,x21.next_)
       else
        (Pu.forP (P.B4.b2 (rf_approx_nfa_path) x1 x9 y1) 0 x9.Right (s38.1,s38.2.1,s38.2.2.1,s38.2.2.2.1,s38.2.2.2.2.1,s38.2.2.2.2.2,((Pu.mget x9.Left y1.2.2.2.2.2.2.1).getD 0),0)).bind fun y14=>
        (Pu.sub x9.Right y14.2.2.2.2.2.2.2 x9.Right.length).bind fun x26=>
        (rf_approx_nfa_path (Ty.G3.mk (Ty.E8.mk y14.1 y14.2.1 y14.2.2.1 y14.2.2.2.1) y14.2.2.2.2.1 y14.2.2.2.2.2.1) y14.2.2.2.2.2.2.1 x26 ((Pu.mget x9.Left y1.2.2.2.2.2.2.2).getD 0)).bind fun x27=>
        some (x27.g.Terms,x27.g.Nons,x27.g.Start,x27.g.Rules,x27.of_,x27.next_)).bind fun y10=>
     some (y10.1,y10.2.1,y10.2.2.1,y10.2.2.2.1,y10.2.2.2.2.1,y10.2.2.2.2.2)).bind fun y6=>
  some (y6.1,y6.2.1,y6.2.2.1,y6.2.2.2.1,y6.2.2.2.2.1,y6.2.2.2.2.2)
def P.B4.b0 (x1:Ty.B6)(_:Int)(x2:Int)(s5:(Int×Int×Int×(List Ty.E2)×(List Ty.B6)×(List (List Ty.C9))×(List (Int×Int))×(List (Int×Int)))):Option (Int×Int×Int×(List Ty.E2)×(List Ty.B6)×(List (List Ty.C9))×(List (Int×Int))×(List (Int×Int))):=
 (P.F6 (Ty.G3.mk (Ty.E8.mk s5.1 s5.2.1 s5.2.2.1 s5.2.2.2.1) s5.2.2.2.2.1 s5.2.2.2.2.2.1)).bind fun x3=>
 (if x1.Kind=2 then
     (P.F6 x3.1).bind fun x4=>
     some (x4.1.g.Terms,x4.1.g.Nons,x4.1.g.Start,x4.1.g.Rules,x4.1.of_,x4.1.next_,(Pu.mput x2 x4.2 s5.2.2.2.2.2.2.2))
   else
    some (x3.1.g.Terms,x3.1.g.Nons,x3.1.g.Start,x3.1.g.Rules,x3.1.of_,x3.1.next_,s5.2.2.2.2.2.2.2)).bind fun y2=>
 some (y2.1,y2.2.1,y2.2.2.1,y2.2.2.2.1,y2.2.2.2.2.1,y2.2.2.2.2.2.1,(Pu.mput x2 x3.2 s5.2.2.2.2.2.2.1),y2.2.2.2.2.2.2)
def P.F0.b0 (rf_approx_nfa_add:(Ty.G3)→(Int)→(Int)→(Int)→Option Ty.G3)(a2:(List Ty.F2))(a3:Int)(i1:Int)(x1:Ty.F2)(s1:(Int×Int×Int×(List Ty.E2)×(List Ty.B6)×(List (List Ty.C9))×Int)):Option (Int×Int×Int×(List Ty.E2)×(List Ty.B6)×(List (List Ty.C9))×Int):=
 (if(i1:Int)<(Pu.W ((a2.length:Int)-1)) then
    (P.F6 (Ty.G3.mk (Ty.E8.mk s1.1 s1.2.1 s1.2.2.1 s1.2.2.2.1) s1.2.2.2.2.1 s1.2.2.2.2.2.1)).bind fun x2=>
    some (x2.1.g.Terms,x2.1.g.Nons,x2.1.g.Start,x2.1.g.Rules,x2.1.of_,x2.1.next_,x2.2)
   else
    some (s1.1,s1.2.1,s1.2.2.1,s1.2.2.2.1,s1.2.2.2.2.1,s1.2.2.2.2.2.1,a3)).bind fun y2=>
 (if x1.Term then
     (P.F8 (Ty.G3.mk (Ty.E8.mk y2.1 y2.2.1 y2.2.2.1 y2.2.2.2.1) y2.2.2.2.2.1 y2.2.2.2.2.2.1) s1.2.2.2.2.2.2 x1.N y2.2.2.2.2.2.2).bind fun x3=>
     some (x3.g.Terms,x3.g.Nons,x3.g.Start,x3.g.Rules,x3.of_,x3.next_)
   else
    (rf_approx_nfa_add (Ty.G3.mk (Ty.E8.mk y2.1 y2.2.1 y2.2.2.1 y2.2.2.2.1) y2.2.2.2.2.1 y2.2.2.2.2.2.1) x1.N s1.2.2.2.2.2.2 y2.2.2.2.2.2.2).bind fun x4=>
    some (x4.g.Terms,x4.g.Nons,x4.g.Start,x4.g.Rules,x4.of_,x4.next_)).bind fun y3=>
 some (y3.1,y3.2.1,y3.2.2.1,y3.2.2.2.1,y3.2.2.2.2.1,y3.2.2.2.2.2,y2.2.2.2.2.2.2)
mutual
def P.B4:Nat→(Ty.G3)→(Int)→(Int)→(Int)→Option Ty.G3
 | 0,_,_,_,_=>none
 | φ+1,a0,a1,a2,a3=>
 if 1000<(a0.next_.length:Int) then
  some a0
 else
  (Pu.ix a0.of_ a1).bind fun x1=>
  (Pu.forP (P.B4.b0 x1) 0 x1.Nons (a0.g.Terms,a0.g.Nons,a0.g.Start,a0.g.Rules,a0.of_,a0.next_,[],[])).bind fun y1=>
  (if x1.Kind=1 then
      (P.F8 (Ty.G3.mk (Ty.E8.mk y1.1 y1.2.1 y1.2.2.1 y1.2.2.2.1) y1.2.2.2.2.1 y1.2.2.2.2.2.1) ((Pu.mget a1 y1.2.2.2.2.2.2.1).getD 0) (-1) a3).bind fun x5=>
      some (x5.g.Terms,x5.g.Nons,x5.g.Start,x5.g.Rules,x5.of_,x5.next_)
    else
     (if x1.Kind=0 then
         (P.F8 (Ty.G3.mk (Ty.E8.mk y1.1 y1.2.1 y1.2.2.1 y1.2.2.2.1) y1.2.2.2.2.1 y1.2.2.2.2.2.1) a2 (-1) ((Pu.mget a1 y1.2.2.2.2.2.2.1).getD 0)).bind fun x6=>
         some (x6.g.Terms,x6.g.Nons,x6.g.Start,x6.g.Rules,x6.of_,x6.next_)
       else
        (P.F8 (Ty.G3.mk (Ty.E8.mk y1.1 y1.2.1 y1.2.2.1 y1.2.2.2.1) y1.2.2.2.2.1 y1.2.2.2.2.2.1) a2 (-1) ((Pu.mget a1 y1.2.2.2.2.2.2.1).getD 0)).bind fun x7=>
        (P.F8 x7 ((Pu.mget a1 y1.2.2.2.2.2.2.2).getD 0) (-1) a3).bind fun x8=>
        some (x8.g.Terms,x8.g.Nons,x8.g.Start,x8.g.Rules,x8.of_,x8.next_)).bind fun y4=>
     some (y4.1,y4.2.1,y4.2.2.1,y4.2.2.2.1,y4.2.2.2.2.1,y4.2.2.2.2.2)).bind fun y3=>
  (Pu.forP (P.B4.b1 (P.F0 φ) a2 a3 x1 y1) 0 y3.2.2.2.1 (y3.1,y3.2.1,y3.2.2.1,y3.2.2.2.1,y3.2.2.2.2.1,y3.2.2.2.2.2)).bind fun y5=>
  some (Ty.G3.mk (Ty.E8.mk y5.1 y5.2.1 y5.2.2.1 y5.2.2.2.1) y5.2.2.2.2.1 y5.2.2.2.2.2)
def P.F0:Nat→(Ty.G3)→(Int)→((List Ty.F2))→(Int)→Option Ty.G3
 | 0,_,_,_,_=>none
 | φ+1,a0,a1,a2,a3=>
 (Pu.forP (P.F0.b0 (P.B4 φ) a2 a3) 0 a2 (a0.g.Terms,a0.g.Nons,a0.g.Start,a0.g.Rules,a0.of_,a0.next_,a1)).bind fun y1=>
 (if(a2.length:Int)=0 then
    (P.F8 (Ty.G3.mk (Ty.E8.mk y1.1 y1.2.1 y1.2.2.1 y1.2.2.2.1) y1.2.2.2.2.1 y1.2.2.2.2.2.1) y1.2.2.2.2.2.2 (-1) a3).bind fun x5=>
    some (x5.g.Terms,x5.g.Nons,x5.g.Start,x5.g.Rules,x5.of_,x5.next_)
   else
    some (y1.1,y1.2.1,y1.2.2.1,y1.2.2.2.1,y1.2.2.2.2.1,y1.2.2.2.2.2.1)).bind fun y4=>
 some (Ty.G3.mk (Ty.E8.mk y4.1 y4.2.1 y4.2.2.1 y4.2.2.2.1) y4.2.2.2.2.1 y4.2.2.2.2.2)
end
def P.F4 (a0:(List Int)):Option (List Int):=
 (Pu.app 8 [] a0).bind fun x1=>
 some x1
def P.D4 (a0:Int)(a1:Int):Option Bool:=
 (P.G8 a0).bind fun x1=>
 (if x1 then
     (P.G8 a1).bind fun x2=>
     some (!x2)
   else
    some false).bind fun y1=>
 some (y1 ||(decide (a0<a1)))
def P.C1.b1 (a1:Int)(s5:((List Int)×Int)):Option (Pu.Step ((List Int)×Int) Unit):=
 (if decide (a1<s5.2) then
     (Pu.ix s5.1 s5.2).bind fun x3=>
     (Pu.ix s5.1 (Pu.W (s5.2-1))).bind fun x4=>
     (P.D4 x3 x4).bind fun x5=>
     some x5
   else
    some false).bind fun y5=>
 if y5 then
  (Pu.ix s5.1 (Pu.W (s5.2-1))).bind fun x6=>
  (Pu.ix s5.1 s5.2).bind fun x7=>
  (Pu.ix s5.1 s5.2).bind fun _=>
  (Pu.ix (Pu.st s5.1 s5.2 x6) (Pu.W (s5.2-1))).bind fun _=>
  some (Pu.Step.nx ((Pu.st (Pu.st s5.1 s5.2 x6) (Pu.W (s5.2-1)) x7),(Pu.W (s5.2-1))))
 else
  some (Pu.Step.br (s5.1,s5.2))
def P.C1.b0 (φ:Nat)(a1:Int)(a2:Int)(s1:((List Int)×Int)):Option (Pu.Step ((List Int)×Int) Unit):=
 if s1.2<a2 then
  (Pu.whl (P.C1.b1 a1) φ (s1.1,s1.2)).bind fun y3=>
  y3.cs (fun s7=>
   some (Pu.Step.nx (s7.1,(Pu.W (s1.2+1))))) (fun _=>none)
 else
  some (Pu.Step.br (s1.1,s1.2))
def P.C1 (φ:Nat)(a0:(List Int))(a1:Int)(a2:Int):Option (List Int):=
 (Pu.whl (P.C1.b0 φ a1 a2) φ (a0,(Pu.W (a1+1)))).bind fun y1=>
 y1.cs (fun s3=>
  some s3.1) (fun _=>none)
def P.C6.b0 (a2:Int)(a3:Int)(s1:((List Int)×Int)):Option (Pu.Step ((List Int)×Int) (List Int)):=
 if a2≤(Pu.W ((Pu.W (2*s1.2))+1)) then
  some (Pu.Step.br (s1.1,s1.2))
 else
  (if decide ((Pu.W ((Pu.W ((Pu.W (2*s1.2))+1))+1))<a2) then
      (Pu.ix s1.1 (Pu.W (a3+(Pu.W ((Pu.W (2*s1.2))+1))))).bind fun x2=>
      (Pu.ix s1.1 (Pu.W ((Pu.W (a3+(Pu.W ((Pu.W (2*s1.2))+1))))+1))).bind fun x3=>
      (P.D4 x2 x3).bind fun x4=>
      some x4
    else
     some false).bind fun y3=>
  (if y3 then
      some (Pu.W ((Pu.W ((Pu.W (2*s1.2))+1))+1))
    else
     some (Pu.W ((Pu.W (2*s1.2))+1))).bind fun y4=>
  (Pu.ix s1.1 (Pu.W (a3+s1.2))).bind fun x5=>
  (Pu.ix s1.1 (Pu.W (a3+y4))).bind fun x6=>
  (P.D4 x5 x6).bind fun x7=>
  if !x7 then
   some (Pu.Step.rt s1.1)
  else
   (Pu.ix s1.1 (Pu.W (a3+y4))).bind fun x8=>
   (Pu.ix s1.1 (Pu.W (a3+s1.2))).bind fun x9=>
   (Pu.ix s1.1 (Pu.W (a3+s1.2))).bind fun _=>
   (Pu.ix (Pu.st s1.1 (Pu.W (a3+s1.2)) x8) (Pu.W (a3+y4))).bind fun _=>
   some (Pu.Step.nx ((Pu.st (Pu.st s1.1 (Pu.W (a3+s1.2)) x8) (Pu.W (a3+y4)) x9),y4))
def P.C6 (φ:Nat)(a0:(List Int))(a1:Int)(a2:Int)(a3:Int):Option (List Int):=
 (Pu.whl (P.C6.b0 a2 a3) φ (a0,a1)).bind fun y1=>
 y1.cs (fun s3=>
  some s3.1) (fun r=>some r)
def P.C2.b1 (φ:Nat)(a1:Int)(s7:((List Int)×Int)):Option (Pu.Step ((List Int)×Int) Unit):=
 if 0≤s7.2 then
  (Pu.ix s7.1 (Pu.W (a1+s7.2))).bind fun x5=>
  (Pu.ix s7.1 a1).bind fun x6=>
  (Pu.ix s7.1 a1).bind fun _=>
  (Pu.ix (Pu.st s7.1 a1 x5) (Pu.W (a1+s7.2))).bind fun _=>
  (P.C6 φ (Pu.st (Pu.st s7.1 a1 x5) (Pu.W (a1+s7.2)) x6) 0 s7.2 a1).bind fun x9=>
  some (Pu.Step.nx (x9,(Pu.W (s7.2-1))))
 else
  some (Pu.Step.br (s7.1,s7.2))
def P.C2.b0 (φ:Nat)(a1:Int)(a2:Int)(s1:((List Int)×Int)):Option (Pu.Step ((List Int)×Int) Unit):=
 if 0≤s1.2 then
  (P.C6 φ s1.1 s1.2 (Pu.W (a2-a1)) a1).bind fun x3=>
  some (Pu.Step.nx (x3,(Pu.W (s1.2-1))))
 else
  some (Pu.Step.br (s1.1,s1.2))
def P.C2 (φ:Nat)(a0:(List Int))(a1:Int)(a2:Int):Option (List Int):=
 (Pu.quo .i64 (Pu.W ((Pu.W (a2-a1))-1)) 2).bind fun x1=>
 (Pu.whl (P.C2.b0 φ a1 a2) φ (a0,x1)).bind fun y1=>
 y1.cs (fun s3=>
  (Pu.whl (P.C2.b1 φ a1) φ (s3.1,(Pu.W ((Pu.W (a2-a1))-1)))).bind fun y3=>
  y3.cs (fun s9=>
   some s9.1) (fun _=>none)) (fun _=>none)
def P.G4 (a0:Int):Option Int:=
 (if 4294967296≤a0 then
     (Pu.shr .u64 a0 32).bind fun x1=>
     some (x1,32)
   else
    some (a0,0)).bind fun y1=>
 (if 65536≤y1.1 then
     (Pu.shr .u64 y1.1 16).bind fun x2=>
     some (x2,(Pu.W (y1.2+16)))
   else
    some (y1.1,y1.2)).bind fun y2=>
 (if 256≤y2.1 then
     (Pu.shr .u64 y2.1 8).bind fun x3=>
     some (x3,(Pu.W (y2.2+8)))
   else
    some (y2.1,y2.2)).bind fun y3=>
 (Pu.sidx ⟨#[0,1,2,2,3,3,3,3,4,4,4,4,4,4,4,4,5,5,5,5,5,5,5,5,5,5,5,5,5,5,5,5,6,6,6,6,6,6,6,6,6,6,6,6,6,6,6,6,6,6,6,6,6,6,6,6,6,6,6,6,6,6,6,6,7,7,7,7,7,7,7,7,7,7,7,7,7,7,7,7,7,7,7,7,7,7,7,7,7,7,7,7,7,7,7,7,7,7,7,7,7,7,7,7,7,7,7,7,7,7,7,7,7,7,7,7,7,7,7,7,7,7,7,7,7,7,7,7,8,8,8,8,8,8,8,8,8,8,8,8,8,8,8,8,8,8,8,8,8,8,8,8,8,8,8,8,8,8,8,8,8,8,8,8,8,8,8,8,8,8,8,8,8,8,8,8,8,8,8,8,8,8,8,8,8,8,8,8,8,8,8,8,8,8,8,8,8,8,8,8,8,8,8,8,8,8,8,8,8,8,8,8,8,8,8,8,8,8,8,8,8,8,8,8,8,8,8,8,8,8,8,8,8,8,8,8,8,8,8,8,8,8,8,8,8,8,8,8,8,8,8,8,8,8,8,8]⟩ (IntKind.u8.wrap y3.1)).bind fun x4=>
 some (Pu.W (y3.2+(Pu.W x4)))
def P.J2 (a0:Int):Option Int:=
 (P.G4 a0).bind fun x1=>
 some x1
def P.G6 (a0:Int):Option Int:=
 (P.J2 (IntKind.u64.wrap a0)).bind fun x1=>
 (Pu.shl .u64 1 x1).bind fun x2=>
 some x2
def P.G2 (a0:Int):Option (Int×Int):=
 (Pu.shl .u64 a0 13).bind fun x1=>
 (Pu.shr .u64 (Pu.bxor .u64 a0 x1) 7).bind fun x2=>
 (Pu.shl .u64 (Pu.bxor .u64 (Pu.bxor .u64 a0 x1) x2) 17).bind fun x3=>
 some ((Pu.bxor .u64 (Pu.bxor .u64 (Pu.bxor .u64 a0 x1) x2) x3),(Pu.bxor .u64 (Pu.bxor .u64 (Pu.bxor .u64 a0 x1) x2) x3))
def P.C0.b0 (a1:Int)(a2:Int)(x1:Int)(s6:((List Int)×Int×Int)):Option (Pu.Step ((List Int)×Int×Int) Unit):=
 (Pu.quo .i64 (Pu.W (a2-a1)) 4).bind fun x4=>
 if s6.2.2≤(Pu.W ((Pu.W (a1+(Pu.W (x4*2))))+1)) then
  (P.G2 s6.2.1).bind fun x5=>
  (if(Pu.W (a2-a1))≤(Pu.W (Pu.band .u64 x5.2 (IntKind.u64.wrap (x1-1)))) then
     some (Pu.W ((Pu.W (Pu.band .u64 x5.2 (IntKind.u64.wrap (x1-1))))-(Pu.W (a2-a1))))
    else
     some (Pu.W (Pu.band .u64 x5.2 (IntKind.u64.wrap (x1-1))))).bind fun y4=>
  (Pu.ix s6.1 (Pu.W (a1+y4))).bind fun x6=>
  (Pu.ix s6.1 s6.2.2).bind fun x7=>
  (Pu.ix s6.1 s6.2.2).bind fun _=>
  (Pu.ix (Pu.st s6.1 s6.2.2 x6) (Pu.W (a1+y4))).bind fun _=>
  some (Pu.Step.nx ((Pu.st (Pu.st s6.1 s6.2.2 x6) (Pu.W (a1+y4)) x7),x5.1,(Pu.W (s6.2.2+1))))
 else
  some (Pu.Step.br (s6.1,s6.2.1,s6.2.2))
def P.C0 (φ:Nat)(a0:(List Int))(a1:Int)(a2:Int):Option (List Int):=
 (if 8≤(Pu.W (a2-a1)) then
     (P.G6 (Pu.W (a2-a1))).bind fun x1=>
     (Pu.quo .i64 (Pu.W (a2-a1)) 4).bind fun x2=>
     (Pu.whl (P.C0.b0 a1 a2 x1) φ (a0,(IntKind.u64.wrap (Pu.W (a2-a1))),(Pu.W ((Pu.W (a1+(Pu.W (x2*2))))-1)))).bind fun y2=>
     y2.cs (fun s8=>
      some s8.1) (fun _=>none)
   else
    some a0).bind fun y1=>
 some y1
def P.D9 (a0:(List Int))(a1:Int)(a2:Int)(a3:Int):Option (Int×Int×Int):=
 (Pu.ix a0 a2).bind fun x1=>
 (Pu.ix a0 a1).bind fun x2=>
 (P.D4 x1 x2).bind fun x3=>
 if x3 then
  some ((Pu.W (a3+1)),a2,a1)
 else
  some (a3,a1,a2)
def P.E3 (a0:(List Int))(a1:Int)(a2:Int)(a3:Int)(a4:Int):Option (Int×Int):=
 (P.D9 a0 a1 a2 a4).bind fun x1=>
 (P.D9 a0 x1.2.2 a3 x1.1).bind fun x2=>
 (P.D9 a0 x1.2.1 x2.2.1 x2.1).bind fun x3=>
 some (x3.1,x3.2.2)
def P.D1 (a0:(List Int))(a1:Int)(a2:Int):Option (Int×Int):=
 (P.E3 a0 (Pu.W (a1-1)) a1 (Pu.W (a1+1)) a2).bind fun x1=>
 some (x1.1,x1.2)
def P.B7 (a0:(List Int))(a1:Int)(a2:Int):Option (Int×Int):=
 (Pu.quo .i64 (Pu.W (a2-a1)) 4).bind fun x1=>
 (Pu.quo .i64 (Pu.W (a2-a1)) 4).bind fun x2=>
 (Pu.quo .i64 (Pu.W (a2-a1)) 4).bind fun x3=>
 (if 8≤(Pu.W (a2-a1)) then
     (if 50≤(Pu.W (a2-a1)) then
         (P.D1 a0 (Pu.W (a1+(Pu.W (x1*1)))) 0).bind fun x4=>
         (P.D1 a0 (Pu.W (a1+(Pu.W (x2*2)))) x4.1).bind fun x5=>
         (P.D1 a0 (Pu.W (a1+(Pu.W (x3*3)))) x5.1).bind fun x6=>
         some (x6.1,x4.2,x5.2,x6.2)
       else
        some (0,(Pu.W (a1+(Pu.W (x1*1)))),(Pu.W (a1+(Pu.W (x2*2)))),(Pu.W (a1+(Pu.W (x3*3)))))).bind fun y2=>
     (P.E3 a0 y2.2.1 y2.2.2.1 y2.2.2.2 y2.1).bind fun x7=>
     some (x7.1,x7.2)
   else
    some (0,(Pu.W (a1+(Pu.W (x2*2)))))).bind fun y1=>
 if y1.1=0 then
  some (y1.2,1)
 else
  if y1.1=12 then
   some (y1.2,2)
  else
   some (y1.2,0)
def P.C8.b0 (s1:((List Int)×Int×Int)):Option (Pu.Step ((List Int)×Int×Int) Unit):=
 if s1.2.1<s1.2.2 then
  (Pu.ix s1.1 s1.2.2).bind fun x2=>
  (Pu.ix s1.1 s1.2.1).bind fun x3=>
  (Pu.ix s1.1 s1.2.1).bind fun _=>
  (Pu.ix (Pu.st s1.1 s1.2.1 x2) s1.2.2).bind fun _=>
  some (Pu.Step.nx ((Pu.st (Pu.st s1.1 s1.2.1 x2) s1.2.2 x3),(Pu.W (s1.2.1+1)),(Pu.W (s1.2.2-1))))
 else
  some (Pu.Step.br (s1.1,s1.2.1,s1.2.2))
def P.C8 (φ:Nat)(a0:(List Int))(a1:Int)(a2:Int):Option (List Int):=
 (Pu.whl (P.C8.b0) φ (a0,a1,(Pu.W (a2-1)))).bind fun y1=>
 y1.cs (fun s3=>
  some s3.1) (fun _=>none)
def P.A7.b3 (a2:Int)(s28:((List Int)×Int)):Option (Pu.Step ((List Int)×Int) Unit):=
 if s28.2<a2 then
  (Pu.ix s28.1 s28.2).bind fun x19=>
  (Pu.ix s28.1 (Pu.W (s28.2-1))).bind fun x20=>
  (P.D4 x19 x20).bind fun x21=>
  if !x21 then
   some (Pu.Step.br (s28.1,s28.2))
  else
   (Pu.ix s28.1 (Pu.W (s28.2-1))).bind fun x22=>
   (Pu.ix s28.1 s28.2).bind fun x23=>
   (Pu.ix s28.1 s28.2).bind fun _=>
   (Pu.ix (Pu.st s28.1 s28.2 x22) (Pu.W (s28.2-1))).bind fun _=>
   some (Pu.Step.nx ((Pu.st (Pu.st s28.1 s28.2 x22) (Pu.W (s28.2-1)) x23),(Pu.W (s28.2+1))))
 else
  some (Pu.Step.br (s28.1,s28.2))
def P.A7.b2 (s17:((List Int)×Int)):Option (Pu.Step ((List Int)×Int) Unit):=
 if 1≤s17.2 then
  (Pu.ix s17.1 s17.2).bind fun x11=>
  (Pu.ix s17.1 (Pu.W (s17.2-1))).bind fun x12=>
  (P.D4 x11 x12).bind fun x13=>
  if !x13 then
   some (Pu.Step.br (s17.1,s17.2))
  else
   (Pu.ix s17.1 (Pu.W (s17.2-1))).bind fun x14=>
   (Pu.ix s17.1 s17.2).bind fun x15=>
   (Pu.ix s17.1 s17.2).bind fun _=>
   (Pu.ix (Pu.st s17.1 s17.2 x14) (Pu.W (s17.2-1))).bind fun _=>
   some (Pu.Step.nx ((Pu.st (Pu.st s17.1 s17.2 x14) (Pu.W (s17.2-1)) x15),(Pu.W (s17.2-1))))
 else
  some (Pu.Step.br (s17.1,s17.2))
def P.A7.b1 (a2:Int)(s1:((List Int)×Int×Int))(s5:Int):Option (Pu.Step Int Unit):=
 (if decide (s5<a2) then
     (Pu.ix s1.1 s5).bind fun x3=>
     (Pu.ix s1.1 (Pu.W (s5-1))).bind fun x4=>
     (P.D4 x3 x4).bind fun x5=>
     some (!x5)
   else
    some false).bind fun y5=>
 if y5 then
  some (Pu.Step.nx (Pu.W (s5+1)))
 else
  some (Pu.Step.br s5)
def P.A7.b0 (φ:Nat)(a1:Int)(a2:Int)(s1:((List Int)×Int×Int)):Option (Pu.Step ((List Int)×Int×Int) ((List Int)×Bool)):=
 if s1.2.2<5 then
  (Pu.whl (P.A7.b1 a2 s1) φ s1.2.1).bind fun y3=>
  y3.cs (fun s7=>
   if s7=a2 then
    some (Pu.Step.rt (s1.1,true))
   else
    if(Pu.W (a2-a1))<50 then
     some (Pu.Step.rt (s1.1,false))
    else
     (Pu.ix s1.1 (Pu.W (s7-1))).bind fun x6=>
     (Pu.ix s1.1 s7).bind fun x7=>
     (Pu.ix s1.1 s7).bind fun _=>
     (Pu.ix (Pu.st s1.1 s7 x6) (Pu.W (s7-1))).bind fun _=>
     (if 2≤(Pu.W (s7-a1)) then
         (Pu.whl (P.A7.b2) φ ((Pu.st (Pu.st s1.1 s7 x6) (Pu.W (s7-1)) x7),(Pu.W (s7-1)))).bind fun y7=>
         y7.cs (fun s19=>
          some s19.1) (fun _=>none)
       else
        some (Pu.st (Pu.st s1.1 s7 x6) (Pu.W (s7-1)) x7)).bind fun y6=>
     (if 2≤(Pu.W (a2-s7)) then
         (Pu.whl (P.A7.b3 a2) φ (y6,(Pu.W (s7+1)))).bind fun y10=>
         y10.cs (fun s30=>
          some s30.1) (fun _=>none)
       else
        some y6).bind fun y9=>
     some (Pu.Step.nx (y9,s7,(Pu.W (s1.2.2+1))))) (fun _=>none)
 else
  some (Pu.Step.br (s1.1,s1.2.1,s1.2.2))
def P.A7 (φ:Nat)(a0:(List Int))(a1:Int)(a2:Int):Option ((List Int)×Bool):=
 (Pu.whl (P.A7.b0 φ a1 a2) φ (a0,(Pu.W (a1+1)),0)).bind fun y1=>
 y1.cs (fun s3=>
  some (s3.1,false)) (fun r=>some r)
def P.B2.b2 (a1:Int)(s10:Int)(s4:((List Int)×Int×Int))(s16:Int):Option (Pu.Step Int Unit):=
 (if decide (s10≤s16) then
     (Pu.ix s4.1 a1).bind fun x11=>
     (Pu.ix s4.1 s16).bind fun x12=>
     (P.D4 x11 x12).bind fun x13=>
     some x13
   else
    some false).bind fun y8=>
 if y8 then
  some (Pu.Step.nx (Pu.W (s16-1)))
 else
  some (Pu.Step.br s16)
def P.B2.b1 (a1:Int)(s4:((List Int)×Int×Int))(s8:Int):Option (Pu.Step Int Unit):=
 (if decide (s8≤s4.2.2) then
     (Pu.ix s4.1 a1).bind fun x7=>
     (Pu.ix s4.1 s8).bind fun x8=>
     (P.D4 x7 x8).bind fun x9=>
     some (!x9)
   else
    some false).bind fun y5=>
 if y5 then
  some (Pu.Step.nx (Pu.W (s8+1)))
 else
  some (Pu.Step.br s8)
def P.B2.b0 (φ:Nat)(a1:Int)(s4:((List Int)×Int×Int)):Option (Pu.Step ((List Int)×Int×Int) Unit):=
 (Pu.whl (P.B2.b1 a1 s4) φ s4.2.1).bind fun y3=>
 y3.cs (fun s10=>
  (Pu.whl (P.B2.b2 a1 s10 s4) φ s4.2.2).bind fun y6=>
  y6.cs (fun s18=>
   if s18<s10 then
    some (Pu.Step.br (s4.1,s10,s18))
   else
    (Pu.ix s4.1 s18).bind fun x14=>
    (Pu.ix s4.1 s10).bind fun x15=>
    (Pu.ix s4.1 s10).bind fun _=>
    (Pu.ix (Pu.st s4.1 s10 x14) s18).bind fun _=>
    some (Pu.Step.nx ((Pu.st (Pu.st s4.1 s10 x14) s18 x15),(Pu.W (s10+1)),(Pu.W (s18-1))))) (fun _=>none)) (fun _=>none)
def P.B2 (φ:Nat)(a0:(List Int))(a1:Int)(a2:Int)(a3:Int):Option ((List Int)×Int):=
 (Pu.ix a0 a3).bind fun x1=>
 (Pu.ix a0 a1).bind fun x2=>
 (Pu.ix a0 a1).bind fun _=>
 (Pu.ix (Pu.st a0 a1 x1) a3).bind fun _=>
 (Pu.whl (P.B2.b0 φ a1) φ ((Pu.st (Pu.st a0 a1 x1) a3 x2),(Pu.W (a1+1)),(Pu.W (a2-1)))).bind fun y1=>
 y1.cs (fun s6=>
  some (s6.1,s6.2.1)) (fun _=>none)
def P.B0.b4 (a1:Int)(s26:((List Int)×Int×Int))(s32:Int)(s38:Int):Option (Pu.Step Int Unit):=
 (if decide (s32≤s38) then
     (Pu.ix s26.1 s38).bind fun x27=>
     (Pu.ix s26.1 a1).bind fun x28=>
     (P.D4 x27 x28).bind fun x29=>
     some (!x29)
   else
    some false).bind fun y14=>
 if y14 then
  some (Pu.Step.nx (Pu.W (s38-1)))
 else
  some (Pu.Step.br s38)
def P.B0.b3 (a1:Int)(s26:((List Int)×Int×Int))(s30:Int):Option (Pu.Step Int Unit):=
 (if decide (s30≤s26.2.2) then
     (Pu.ix s26.1 s30).bind fun x23=>
     (Pu.ix s26.1 a1).bind fun x24=>
     (P.D4 x23 x24).bind fun x25=>
     some x25
   else
    some false).bind fun y11=>
 if y11 then
  some (Pu.Step.nx (Pu.W (s30+1)))
 else
  some (Pu.Step.br s30)
def P.B0.b2 (φ:Nat)(a1:Int)(s26:((List Int)×Int×Int)):Option (Pu.Step ((List Int)×Int×Int) Unit):=
 (Pu.whl (P.B0.b3 a1 s26) φ s26.2.1).bind fun y9=>
 y9.cs (fun s32=>
  (Pu.whl (P.B0.b4 a1 s26 s32) φ s26.2.2).bind fun y12=>
  y12.cs (fun s40=>
   if s40<s32 then
    some (Pu.Step.br (s26.1,s32,s40))
   else
    (Pu.ix s26.1 s40).bind fun x30=>
    (Pu.ix s26.1 s32).bind fun x31=>
    (Pu.ix s26.1 s32).bind fun _=>
    (Pu.ix (Pu.st s26.1 s32 x30) s40).bind fun _=>
    some (Pu.Step.nx ((Pu.st (Pu.st s26.1 s32 x30) s40 x31),(Pu.W (s32+1)),(Pu.W (s40-1))))) (fun _=>none)) (fun _=>none)
def P.B0.b1 (a0:(List Int))(a1:Int)(a3:Int)(s6:Int)(x1:Int)(x2:Int)(s12:Int):Option (Pu.Step Int Unit):=
 (if decide (s6≤s12) then
     (Pu.ix (Pu.st (Pu.st a0 a1 x1) a3 x2) s12).bind fun x10=>
     (Pu.ix (Pu.st (Pu.st a0 a1 x1) a3 x2) a1).bind fun x11=>
     (P.D4 x10 x11).bind fun x12=>
     some (!x12)
   else
    some false).bind fun y6=>
 if y6 then
  some (Pu.Step.nx (Pu.W (s12-1)))
 else
  some (Pu.Step.br s12)
def P.B0.b0 (a0:(List Int))(a1:Int)(a2:Int)(a3:Int)(x1:Int)(x2:Int)(s4:Int):Option (Pu.Step Int Unit):=
 (if decide (s4≤(Pu.W (a2-1))) then
     (Pu.ix (Pu.st (Pu.st a0 a1 x1) a3 x2) s4).bind fun x6=>
     (Pu.ix (Pu.st (Pu.st a0 a1 x1) a3 x2) a1).bind fun x7=>
     (P.D4 x6 x7).bind fun x8=>
     some x8
   else
    some false).bind fun y3=>
 if y3 then
  some (Pu.Step.nx (Pu.W (s4+1)))
 else
  some (Pu.Step.br s4)
def P.B0 (φ:Nat)(a0:(List Int))(a1:Int)(a2:Int)(a3:Int):Option ((List Int)×Int×Bool):=
 (Pu.ix a0 a3).bind fun x1=>
 (Pu.ix a0 a1).bind fun x2=>
 (Pu.ix a0 a1).bind fun _=>
 (Pu.ix (Pu.st a0 a1 x1) a3).bind fun _=>
 (Pu.whl (P.B0.b0 a0 a1 a2 a3 x1 x2) φ (Pu.W (a1+1))).bind fun y1=>
 y1.cs (fun s6=>
  (Pu.whl (P.B0.b1 a0 a1 a3 s6 x1 x2) φ (Pu.W (a2-1))).bind fun y4=>
  y4.cs (fun s14=>
   if s14<s6 then
    (Pu.ix (Pu.st (Pu.st a0 a1 x1) a3 x2) a1).bind fun x13=>
    (Pu.ix (Pu.st (Pu.st a0 a1 x1) a3 x2) s14).bind fun x14=>
    (Pu.ix (Pu.st (Pu.st a0 a1 x1) a3 x2) s14).bind fun _=>
    (Pu.ix (Pu.st (Pu.st (Pu.st a0 a1 x1) a3 x2) s14 x13) a1).bind fun _=>
    some ((Pu.st (Pu.st (Pu.st (Pu.st a0 a1 x1) a3 x2) s14 x13) a1 x14),s14,true)
   else
    (Pu.ix (Pu.st (Pu.st a0 a1 x1) a3 x2) s14).bind fun x17=>
    (Pu.ix (Pu.st (Pu.st a0 a1 x1) a3 x2) s6).bind fun x18=>
    (Pu.ix (Pu.st (Pu.st a0 a1 x1) a3 x2) s6).bind fun _=>
    (Pu.ix (Pu.st (Pu.st (Pu.st a0 a1 x1) a3 x2) s6 x17) s14).bind fun _=>
    (Pu.whl (P.B0.b2 φ a1) φ ((Pu.st (Pu.st (Pu.st (Pu.st a0 a1 x1) a3 x2) s6 x17) s14 x18),(Pu.W (s6+1)),(Pu.W (s14-1)))).bind fun y7=>
    y7.cs (fun s28=>
     (Pu.ix s28.1 a1).bind fun x34=>
     (Pu.ix s28.1 s28.2.2).bind fun x35=>
     (Pu.ix s28.1 s28.2.2).bind fun _=>
     (Pu.ix (Pu.st s28.1 s28.2.2 x34) a1).bind fun _=>
     some ((Pu.st (Pu.st s28.1 s28.2.2 x34) a1 x35),s28.2.2,false)) (fun _=>none)) (fun _=>none)) (fun _=>none)
def P.B1.b0 (rf_slices_pdqsortOrdered_int:((List Int))→(Int)→(Int)→(Int)→Option (List Int))(φ:Nat)(s1:((List Int)×Int×Int×Int×Bool×Bool)):Option (Pu.Step ((List Int)×Int×Int×Int×Bool×Bool) (List Int)):=
 if(Pu.W (s1.2.2.1-s1.2.1))≤12 then
  (P.C1 φ s1.1 s1.2.1 s1.2.2.1).bind fun x2=>
  some (Pu.Step.rt x2)
 else
  if s1.2.2.2.1=0 then
   (P.C2 φ s1.1 s1.2.1 s1.2.2.1).bind fun x3=>
   some (Pu.Step.rt x3)
  else
   (if !s1.2.2.2.2.1 then
       (P.C0 φ s1.1 s1.2.1 s1.2.2.1).bind fun x4=>
       some (x4,(Pu.W (s1.2.2.2.1-1)))
     else
      some (s1.1,s1.2.2.2.1)).bind fun y3=>
   (P.B7 y3.1 s1.2.1 s1.2.2.1).bind fun x5=>
   (if x5.2=2 then
       (P.C8 φ y3.1 s1.2.1 s1.2.2.1).bind fun x6=>
       some (x6,(Pu.W ((Pu.W (s1.2.2.1-1))-(Pu.W (x5.1-s1.2.1)))),1)
     else
      some (y3.1,x5.1,x5.2)).bind fun y4=>
   ((if((s1.2.2.2.2.1&&s1.2.2.2.2.2)&&(decide (y4.2.2=1))) then
        (P.A7 φ y4.1 s1.2.1 s1.2.2.1).bind fun x7=>
        if x7.2 then
         some (Pu.Fin.rt (Pu.Step.rt x7.1))
        else
         some (Pu.Fin.out x7.1)
      else
       some (Pu.Fin.out y4.1):Option (Pu.Fin (List Int) (Pu.Step ((List Int)×Int×Int×Int×Bool×Bool) (List Int))))).bind fun y5=>
   y5.cs (fun y6=>
    (if decide (0<s1.2.1) then
        (Pu.ix y6 (Pu.W (s1.2.1-1))).bind fun x8=>
        (Pu.ix y6 y4.2.1).bind fun x9=>
        (P.D4 x8 x9).bind fun x10=>
        some (!x10)
      else
       some false).bind fun y7=>
    if y7 then
     (P.B2 φ y6 s1.2.1 s1.2.2.1 y4.2.1).bind fun x11=>
     some (Pu.Step.nx (x11.1,x11.2,s1.2.2.1,y3.2,s1.2.2.2.2.1,s1.2.2.2.2.2))
    else
     (P.B0 φ y6 s1.2.1 s1.2.2.1 y4.2.1).bind fun x12=>
     (Pu.quo .i64 (Pu.W (s1.2.2.1-s1.2.1)) 8).bind fun x13=>
     (if(Pu.W (x12.2.1-s1.2.1))<(Pu.W (s1.2.2.1-x12.2.1)) then
        (rf_slices_pdqsortOrdered_int x12.1 s1.2.1 x12.2.1 y3.2).bind fun x14=>
        some (x14,(Pu.W (x12.2.1+1)),s1.2.2.1,decide (x13≤(Pu.W (x12.2.1-s1.2.1))))
       else
        (rf_slices_pdqsortOrdered_int x12.1 (Pu.W (x12.2.1+1)) s1.2.2.1 y3.2).bind fun x15=>
        some (x15,s1.2.1,x12.2.1,decide (x13≤(Pu.W (s1.2.2.1-x12.2.1))))).bind fun y8=>
     some (Pu.Step.nx (y8.1,y8.2.1,y8.2.2.1,y3.2,y8.2.2.2,x12.2.2))) (fun r=>some r)
def P.B1:Nat→((List Int))→(Int)→(Int)→(Int)→Option (List Int)
 | 0,_,_,_,_=>none
 | φ+1,a0,a1,a2,a3=>
 (Pu.whl (P.B1.b0 (P.B1 φ) φ) φ (a0,a1,a2,a3,true,true)).bind fun y1=>
 y1.cs (fun s3=>
  some s3.1) (fun r=>some r)
def P.G9 (φ:Nat)(a0:(List Int)):Option (List Int):=
 (P.J2 (IntKind.u64.wrap (a0.length:Int))).bind fun x1=>
 (P.B1 φ a0 0 (a0.length:Int) x1).bind fun x2=>
 some x2
def P.C7.b1 (_:Int)(x6:Ty.C9)(s9:(List Int)):Option (List Int):=
 (if x6.by_<0 then
     (P.F4 s9).bind fun x7=>
     (Pu.app 8 x7 [x6.to]).bind fun x8=>
     some x8
   else
    some s9).bind fun y4=>
 some y4
def P.C7.b0 (a0:Ty.G3)(s2:((List (Int×Bool))×(List Int)×(List Int))):Option (Pu.Step ((List (Int×Bool))×(List Int)×(List Int)) Unit):=
 if 0<(s2.2.2.length:Int) then
  (Pu.ix s2.2.2 0).bind fun x2=>
  (Pu.sub s2.2.2 1 s2.2.2.length).bind fun x3=>
  if((Pu.mget x2 s2.1).getD false) then
   some (Pu.Step.nx (s2.1,s2.2.1,x3))
  else
   (Pu.app 8 s2.2.1 [x2]).bind fun x4=>
   (Pu.ix a0.next_ x2).bind fun x5=>
   (Pu.forP (P.C7.b1) 0 x5 x3).bind fun y3=>
   some (Pu.Step.nx ((Pu.mput x2 true s2.1),x4,y3))
 else
  some (Pu.Step.br (s2.1,s2.2.1,s2.2.2))
def P.C7 (φ:Nat)(a0:Ty.G3)(a1:(List Int)):Option (List Int):=
 (Pu.whl (P.C7.b0 a0) φ ([],[],a1)).bind fun y1=>
 y1.cs (fun s4=>
  (P.G9 φ s4.2.1).bind fun x9=>
  some x9) (fun _=>none)
def P.E0.b0 (a0:(List Int))(a1:(List Int))(_:Int)(x1:Int)(_:Unit):Option (Pu.Step Unit Bool):=
 (Pu.ix a0 x1).bind fun x3=>
 (Pu.ix a1 x1).bind fun x4=>
 if x3≠x4 then
  some (Pu.Step.rt false)
 else
  some (Pu.Step.nx ())
def P.E0 (a0:(List Int))(a1:(List Int)):Option Bool:=
 if(a0.length:Int)≠(a1.length:Int) then
  some false
 else
  (Pu.ranO (a0.length:Int)).bind fun x2=>
  (Pu.forL (P.E0.b0 a0 a1) 0 x2 ()).bind fun y1=>
  y1.cs (fun _=>
   some true) (fun r=>some r)
def P.J0 (a0:(List Int))(a1:(List Int)):Option Bool:=
 (P.E0 a0 a1).bind fun x1=>
 some x1
def P.F7.b0 (a0:(List (List Int)))(a1c0:(List Int))(_:Int)(x1:Int)(_:Unit):Option (Pu.Step Unit Int):=
 (Pu.ix a0 x1).bind fun x3=>
 (P.J0 x3 a1c0).bind fun x4=>
 if x4 then
  some (Pu.Step.rt x1)
 else
  some (Pu.Step.nx ())
def P.F7 (a0:(List (List Int)))(a1c0:(List Int)):Option Int:=
 (Pu.ranO (a0.length:Int)).bind fun x2=>
 (Pu.forL (P.F7.b0 a0 a1c0) 0 x2 ()).bind fun y1=>
 y1.cs (fun _=>
  some (-1)) (fun r=>some r)
def P.B8.b3 (x3:Int)(_:Int)(x8:Ty.C9)(s22:(List Int)):Option (List Int):=
 (if x8.by_=x3 then
     (Pu.app 8 s22 [x8.to]).bind fun x9=>
     some x9
   else
    some s22).bind fun y6=>
 some y6
def P.B8.b2 (a0:Ty.G3)(x3:Int)(_:Int)(x6:Int)(s19:(List Int)):Option (List Int):=
 (Pu.ix a0.next_ x6).bind fun x7=>
 (Pu.forP (P.B8.b3 x3) 0 x7 s19).bind fun y5=>
 some y5
def P.B8.b1 (φ:Nat)(a0:Ty.G3)(s10:((List (List Int))×(List Int)×(List (List Int))×Int))(_:Int)(x3:Int)(s14:((List (List Int))×(List Int))):Option ((List (List Int))×(List Int)):=
 (Pu.ix s14.1 s10.2.2.2).bind fun x5=>
 (Pu.forP (P.B8.b2 a0 x3) 0 x5 []).bind fun y4=>
 if(y4.length:Int)=0 then
  (Pu.app 8 s14.2 [(-1)]).bind fun x10=>
  some (s14.1,x10)
 else
  (P.C7 φ a0 y4).bind fun x11=>
  (P.F7 s14.1 x11).bind fun x12=>
  (if x12<0 then
      (Pu.app 24 s14.1 [x11]).bind fun x13=>
      some (x13,(s14.1.length:Int))
    else
     some (s14.1,x12)).bind fun y7=>
  (Pu.app 8 s14.2 [y7.2]).bind fun x14=>
  some (y7.1,x14)
def P.B8.b0 (φ:Nat)(a0:Ty.G3)(a2:Int)(s10:((List (List Int))×(List Int)×(List (List Int))×Int)):Option (Pu.Step ((List (List Int))×(List Int)×(List (List Int))×Int) (Ty.J5×Bool)):=
 if s10.2.2.2<(s10.1.length:Int) then
  (Pu.ranO a0.g.Terms).bind fun x4=>
  (Pu.forP (P.B8.b1 φ a0 s10) 0 x4 (s10.1,[])).bind fun y3=>
  (Pu.app 24 s10.2.2.1 [y3.2]).bind fun x15=>
  (Pu.ix y3.1 s10.2.2.2).bind fun x16=>
  (P.C4 x16 a2).bind fun x17=>
  (if x17 then
      (Pu.app 8 s10.2.1 [0]).bind fun x18=>
      some x18
    else
     (Pu.app 8 s10.2.1 [(-1)]).bind fun x19=>
     some x19).bind fun y8=>
  if 200<(y3.1.length:Int) then
   some (Pu.Step.rt ((Ty.J5.mk 0 [] []),false))
  else
   some (Pu.Step.nx (y3.1,y8,x15,(Pu.W (s10.2.2.2+1))))
 else
  some (Pu.Step.br (s10.1,s10.2.1,s10.2.2.1,s10.2.2.2))
def P.B8 (φ:Nat)(a0:Ty.G3)(a1:Int)(a2:Int):Option (Ty.J5×Bool):=
 (P.C7 φ a0 [a1]).bind fun x1=>
 (Pu.whl (P.B8.b0 φ a0 a2) φ ([x1],[],[],0)).bind fun y1=>
 y1.cs (fun s12=>
  some ((Ty.J5.mk 0 s12.2.1 s12.2.2.1),true)) (fun r=>some r)
def P.D8.b2 (a0:Ty.J5)(_:Int)(x5:Int)(_:Unit):Option (Pu.Step Unit (Pu.Step Unit Int)):=
 if((decide (x5<(-1))) ||(decide ((a0.Next.length:Int)≤x5))) then
  some (Pu.Step.rt (Pu.Step.rt 1))
 else
  some (Pu.Step.nx ())
def P.D8.b1 (a0:Ty.J5)(i7:Int)(x3:(List Int))(_:Unit):Option (Pu.Step Unit Int):=
 (Pu.ix a0.Accept (i7:Int)).bind fun x4=>
 if x4<(-1) then
  some (Pu.Step.rt 1)
 else
  (Pu.forL (P.D8.b2 a0) 0 x3 ()).bind fun y5=>
  y5.cs (fun _=>
   some (Pu.Step.nx ())) (fun r=>some r)
def P.D8.b0 (x1:(List Int))(_:Int)(x2:(List Int))(_:Unit):Option (Pu.Step Unit Int):=
 if((decide ((x2.length:Int)≠(x1.length:Int))) ||(decide ((x1.length:Int)=0))) then
  some (Pu.Step.rt 3)
 else
  some (Pu.Step.nx ())
def P.D8 (a0:Ty.J5):Option Int:=
 if 200<(a0.Next.length:Int) then
  some 2
 else
  if((decide ((a0.Next.length:Int)=0)) ||(decide ((a0.Accept.length:Int)≠(a0.Next.length:Int)))) then
   some 3
  else
   (Pu.ix a0.Next 0).bind fun x1=>
   if 16<(x1.length:Int) then
    some 2
   else
    (Pu.forL (P.D8.b0 x1) 0 a0.Next ()).bind fun y1=>
    y1.cs (fun _=>
     if((decide (a0.Start<0)) ||(decide ((a0.Next.length:Int)≤a0.Start))) then
      some 1
     else
      (Pu.forL (P.D8.b1 a0) 0 a0.Next ()).bind fun y3=>
      y3.cs (fun _=>
       some 0) (fun r=>some r)) (fun r=>some r)
def P.F9 (a0:Int)(a1:Int):Option (Int×Int):=
 (Pu.shr .u64 a0 32).bind fun x1=>
 (Pu.shr .u64 a1 32).bind fun x2=>
 (Pu.shr .u64 (IntKind.u64.wrap ((Pu.band .u64 a0 4294967295)*(Pu.band .u64 a1 4294967295))) 32).bind fun x3=>
 (Pu.shr .u64 (IntKind.u64.wrap ((IntKind.u64.wrap (x1*(Pu.band .u64 a1 4294967295)))+x3)) 32).bind fun x4=>
 (Pu.shr .u64 (IntKind.u64.wrap ((Pu.band .u64 (IntKind.u64.wrap ((IntKind.u64.wrap (x1*(Pu.band .u64 a1 4294967295)))+x3)) 4294967295)+(IntKind.u64.wrap ((Pu.band .u64 a0 4294967295)*x2)))) 32).bind fun x5=>
 some ((IntKind.u64.wrap ((IntKind.u64.wrap ((IntKind.u64.wrap (x1*x2))+x4))+x5)),(IntKind.u64.wrap (a0*a1)))
def P.J6 (a0:Int)(a1:Int):Option (Int×Int):=
 (P.F9 a0 a1).bind fun x1=>
 some (x1.1,x1.2)
def P.D0.b0 (s6:((List Int)×Int)):Option (Pu.Step ((List Int)×Int) Unit):=
 if s6.2<(s6.1.length:Int) then
  (Pu.sub s6.1 s6.2 s6.1.length).bind fun _=>
  (Pu.sub s6.1 0 s6.2).bind fun x5=>
  some (Pu.Step.nx ((Pu.cpy s6.1 s6.2 x5),(Pu.W (s6.2+(Pu.cpn s6.1 s6.2 x5)))))
 else
  some (Pu.Step.br (s6.1,s6.2))
def P.D0 (φ:Nat)(a0:(List Int))(a1:Int):Option (List Int):=
 if a1<0 then
  none
 else
  (P.J6 (IntKind.u64.wrap (a0.length:Int)) (IntKind.u64.wrap a1)).bind fun x1=>
  if((decide (0<x1.1)) ||(decide (9223372036854775807<x1.2))) then
   none
  else
   (Pu.mk 8 (Pu.W x1.2) (Pu.W x1.2) 0).bind fun x2=>
   (Pu.whl (P.D0.b0) φ ((Pu.cpy x2 0 a0),(Pu.cpn x2 0 a0))).bind fun y1=>
   y1.cs (fun s8=>
    some s8.1) (fun _=>none)
def P.C5.b3 (x11:Int)(y1:(List (List Int)))(_:Int)(x15:Int)(s36:(List (List (List Int)))):Option (List (List (List Int))):=
 (Pu.ix y1 x15).bind fun x17=>
 (Pu.ix x17 x11).bind fun x18=>
 (Pu.ix s36 x11).bind fun x19=>
 (Pu.ix s36 x11).bind fun _=>
 (Pu.ix x19 x18).bind fun x21=>
 (Pu.app 8 x21 [x15]).bind fun x22=>
 (Pu.ix x19 x18).bind fun _=>
 some (Pu.st s36 x11 (Pu.st x19 x18 x22))
def P.C5.b2 (a0:Ty.J5)(y1:(List (List Int)))(_:Int)(x11:Int)(s28:(List (List (List Int)))):Option (List (List (List Int))):=
 (Pu.mk 24 (Pu.W ((a0.Next.length:Int)+1)) (Pu.W ((a0.Next.length:Int)+1)) []).bind fun x13=>
 (Pu.app 24 s28 [x13]).bind fun x14=>
 (Pu.ranO (y1.length:Int)).bind fun x16=>
 (Pu.forP (P.C5.b3 x11 y1) 0 x16 x14).bind fun y6=>
 some y6
def P.C5.b1 (i7:Int)(x8:Int)(s17:(List Int)):Option (List Int):=
 (if 0≤x8 then
     (Pu.ix s17 (i7:Int)).bind fun _=>
     some (Pu.st s17 (i7:Int) x8)
   else
    some s17).bind fun y4=>
 some y4
def P.C5.b0 (φ:Nat)(a0:Ty.J5)(x1:(List Int))(_:Int)(x4:Int)(s10:(List (List Int))):Option (List (List Int)):=
 (P.D0 φ [(a0.Next.length:Int)] (x1.length:Int)).bind fun x6=>
 (if x4<(a0.Next.length:Int) then
     (Pu.ix a0.Next x4).bind fun x7=>
     (Pu.forP (P.C5.b1) 0 x7 x6).bind fun y3=>
     some y3
   else
    some x6).bind fun y2=>
 (Pu.app 24 s10 [y2]).bind fun x10=>
 some x10
def P.C5 (φ:Nat)(a0:Ty.J5):Option Ty.K4:=
 (Pu.ix a0.Next 0).bind fun x1=>
 (P.F4 a0.Accept).bind fun x2=>
 (Pu.app 8 x2 [(-1)]).bind fun x3=>
 (Pu.ranO (Pu.W ((a0.Next.length:Int)+1))).bind fun x5=>
 (Pu.forP (P.C5.b0 φ a0 x1) 0 x5 []).bind fun y1=>
 (Pu.ranO (x1.length:Int)).bind fun x12=>
 (Pu.forP (P.C5.b2 a0 y1) 0 x12 []).bind fun y5=>
 some (Ty.K4.mk x3 y1 y5)
def P.G7.b0 (i2:Int)(x2:Int)(s4:((List Int)×(List (List Int))×(List (Int×Int)))):Option ((List Int)×(List (List Int))×(List (Int×Int))):=
 (if !((Pu.mget x2 s4.2.2).isSome) then
     (Pu.app 24 s4.2.1 [[]]).bind fun x3=>
     some (x3,(Pu.mput x2 (s4.2.1.length:Int) s4.2.2),(s4.2.1.length:Int))
   else
    some (s4.2.1,s4.2.2,((Pu.mget x2 s4.2.2).getD 0))).bind fun y2=>
 (Pu.ix y2.1 y2.2.2).bind fun x4=>
 (Pu.app 8 x4 [(i2:Int)]).bind fun x5=>
 (Pu.ix s4.1 (i2:Int)).bind fun _=>
 (Pu.ix y2.1 y2.2.2).bind fun _=>
 some ((Pu.st s4.1 (i2:Int) y2.2.2),(Pu.st y2.1 y2.2.2 x5),y2.2.1)
def P.G7 (a0:(List Int)):Option Ty.K5:=
 (Pu.mk 8 (a0.length:Int) (a0.length:Int) 0).bind fun x1=>
 (Pu.forP (P.G7.b0) 0 a0 (x1,[],[])).bind fun y1=>
 some (Ty.K5.mk y1.1 y1.2.1)
def P.B5.b3 (s12:((List Int)×(List (List Int))×(List (Int×Int))))(_:Int)(x13:Int)(s31:(List Int)):Option (List Int):=
 (Pu.ix s31 x13).bind fun _=>
 some (Pu.st s31 x13 (s12.2.1.length:Int))
def P.B5.b2 (y1:((List (Int×Bool))×(List Int)))(_:Int)(x8:Int)(s15:((List Int)×(List Int))):Option ((List Int)×(List Int)):=
 (if((Pu.mget x8 y1.1).getD false) then
    (Pu.app 8 s15.1 [x8]).bind fun x9=>
    some (x9,s15.2)
   else
    (Pu.app 8 s15.2 [x8]).bind fun x10=>
    some (s15.1,x10)).bind fun y5=>
 some (y5.1,y5.2)
def P.B5.b1 (y1:((List (Int×Bool))×(List Int)))(_:Int)(x6:Int)(s12:((List Int)×(List (List Int))×(List (Int×Int)))):Option ((List Int)×(List (List Int))×(List (Int×Int))):=
 (Pu.ix s12.2.1 x6).bind fun x7=>
 (Pu.forP (P.B5.b2 y1) 0 x7 ([],[])).bind fun y4=>
 if(y4.2.length:Int)=0 then
  some (s12.1,s12.2.1,s12.2.2)
 else
  (Pu.ix s12.2.1 x6).bind fun _=>
  (Pu.app 24 (Pu.st s12.2.1 x6 y4.1) [y4.2]).bind fun x12=>
  (Pu.forP (P.B5.b3 s12) 0 y4.2 s12.1).bind fun y6=>
  (Pu.app 16 s12.2.2 [(x6,(s12.2.1.length:Int))]).bind fun x15=>
  some (y6,x12,x15)
def P.B5.b0 (a0:Ty.K5)(_:Int)(x1:Int)(s2:((List (Int×Bool))×(List Int))):Option ((List (Int×Bool))×(List Int)):=
 (Pu.ix a0.of_ x1).bind fun x2=>
 (P.C4 s2.2 x2).bind fun x3=>
 (if !x3 then
     (Pu.ix a0.of_ x1).bind fun x4=>
     (Pu.app 8 s2.2 [x4]).bind fun x5=>
     some x5
   else
    some s2.2).bind fun y2=>
 some ((Pu.mput x1 true s2.1),y2)
def P.B5 (a0:Ty.K5)(a1:(List Int)):Option (Ty.K5×(List (Int×Int))):=
 (Pu.forP (P.B5.b0 a0) 0 a1 ([],[])).bind fun y1=>
 (Pu.forP (P.B5.b1 y1) 0 y1.2 (a0.of_,a0.blocks,[])).bind fun y3=>
 some ((Ty.K5.mk y3.1 y3.2.1),y3.2.2)
def P.C3.b0 (a0:(List Ty.E9))(a1:Ty.E9)(_:Int)(x1:Int)(_:Unit):Option (Pu.Step Unit Int):=
 (Pu.ix a0 x1).bind fun x3=>
 if((a1.block==x3.block)&&(a1.by_==x3.by_)) then
  some (Pu.Step.rt x1)
 else
  some (Pu.Step.nx ())
def P.C3 (a0:(List Ty.E9))(a1:Ty.E9):Option Int:=
 (Pu.ranO (a0.length:Int)).bind fun x2=>
 (Pu.forL (P.C3.b0 a0 a1) 0 x2 ()).bind fun y1=>
 y1.cs (fun _=>
  some (-1)) (fun r=>some r)
def P.D5 (a0:(List Ty.E9))(a1:Ty.E9):Option Bool:=
 (P.C3 a0 a1).bind fun x1=>
 some (decide (0≤x1))
def P.B9.b5 (x15:(Ty.K5×(List (Int×Int))))(x16:(Int×Int))(_:Int)(x17:Int)(s38:(List Ty.E9)):Option (List Ty.E9):=
 (Pu.ix x15.1.blocks x16.1).bind fun x19=>
 (Pu.ix x15.1.blocks x16.2).bind fun x20=>
 (if decide ((x19.length:Int)<(x20.length:Int)) then
     (P.D5 s38 (Ty.E9.mk x16.1 x17)).bind fun x21=>
     some (!x21)
   else
    some false).bind fun y8=>
 (if y8 then
     some x16.1
   else
    some x16.2).bind fun y9=>
 (Pu.app 16 s38 [(Ty.E9.mk y9 x17)]).bind fun x22=>
 some x22
def P.B9.b4 (a0:Ty.K4)(x15:(Ty.K5×(List (Int×Int))))(_:Int)(x16:(Int×Int))(s32:(List Ty.E9)):Option (List Ty.E9):=
 (Pu.ranO (a0.prev.length:Int)).bind fun x18=>
 (Pu.forP (P.B9.b5 x15 x16) 0 x18 s32).bind fun y7=>
 some y7
def P.B9.b3 (a0:Ty.K4)(x8:Ty.E9)(_:Int)(x11:Int)(s24:(List Int)):Option (List Int):=
 (Pu.ix a0.prev x8.by_).bind fun x12=>
 (Pu.ix x12 x11).bind fun x13=>
 (Pu.app 8 s24 x13).bind fun x14=>
 some x14
def P.B9.b2 (a0:Ty.K4)(s15:((List Int)×(List (List Int))×(List Ty.E9))):Option (Pu.Step ((List Int)×(List (List Int))×(List Ty.E9)) Unit):=
 if 0<(s15.2.2.length:Int) then
  (Pu.ix s15.2.2 (Pu.W ((s15.2.2.length:Int)-1))).bind fun x8=>
  (Pu.sub s15.2.2 0 (Pu.W ((s15.2.2.length:Int)-1))).bind fun x9=>
  (Pu.ix s15.2.1 x8.block).bind fun x10=>
  (Pu.forP (P.B9.b3 a0 x8) 0 x10 []).bind fun y5=>
  (P.B5 (Ty.K5.mk s15.1 s15.2.1) y5).bind fun x15=>
  (Pu.forP (P.B9.b4 a0 x15) 0 x15.2 x9).bind fun y6=>
  some (Pu.Step.nx (x15.1.of_,x15.1.blocks,y6))
 else
  some (Pu.Step.br (s15.1,s15.2.1,s15.2.2))
def P.B9.b1 (x2:Int)(_:Int)(x4:Int)(s7:(List Ty.E9)):Option (List Ty.E9):=
 (Pu.app 16 s7 [(Ty.E9.mk x2 x4)]).bind fun x6=>
 some x6
def P.B9.b0 (a0:Ty.K4)(_:Int)(x2:Int)(s4:(List Ty.E9)):Option (List Ty.E9):=
 (Pu.ranO (a0.prev.length:Int)).bind fun x5=>
 (Pu.forP (P.B9.b1 x2) 0 x5 s4).bind fun y2=>
 some y2
def P.B9 (φ:Nat)(a0:Ty.K4):Option (List Int):=
 (P.G7 a0.accept).bind fun x1=>
 (Pu.ranO (x1.blocks.length:Int)).bind fun x3=>
 (Pu.forP (P.B9.b0 a0) 0 x3 []).bind fun y1=>
 (Pu.whl (P.B9.b2 a0) φ (x1.of_,x1.blocks,y1)).bind fun y3=>
 y3.cs (fun s17=>
  some s17.1) (fun _=>none)
def P.G0.b1 (x3:(List Int))(x4:Int)(i11:Int)(x11:Int)(s25:((List (Int×Int))×(List Int)×(List Int))):Option ((List (Int×Int))×(List Int)×(List Int)):=
 (Pu.ix x3 x11).bind fun x12=>
 if x12=x4 then
  some (s25.1,s25.2.1,s25.2.2)
 else
  (if !((Pu.mget x12 s25.1).isSome) then
      (Pu.app 8 s25.2.1 [x11]).bind fun x13=>
      some ((Pu.mput x12 (s25.1.length:Int) s25.1),x13)
    else
     some (s25.1,s25.2.1)).bind fun y4=>
  (Pu.ix s25.2.2 (i11:Int)).bind fun _=>
  some (y4.1,y4.2,(Pu.st s25.2.2 (i11:Int) ((Pu.mget x12 y4.1).getD 0)))
def P.G0.b0 (φ:Nat)(a0:Ty.J5)(x2:Ty.K4)(x3:(List Int))(x4:Int)(s17:((List (Int×Int))×(List Int)×(List (List Int))×(List Int))):Option (Pu.Step ((List (Int×Int))×(List Int)×(List (List Int))×(List Int)) Unit):=
 if 0<(s17.2.2.2.length:Int) then
  (Pu.ix a0.Next 0).bind fun x7=>
  (P.D0 φ [(-1)] (x7.length:Int)).bind fun x8=>
  (Pu.ix s17.2.2.2 0).bind fun x9=>
  (Pu.ix x2.next_ x9).bind fun x10=>
  (Pu.forP (P.G0.b1 x3 x4) 0 x10 (s17.1,s17.2.2.2,x8)).bind fun y3=>
  (Pu.ix y3.2.1 0).bind fun x15=>
  (Pu.ix x2.accept x15).bind fun x16=>
  (Pu.app 8 s17.2.1 [x16]).bind fun x17=>
  (Pu.app 24 s17.2.2.1 [y3.2.2]).bind fun x18=>
  (Pu.sub y3.2.1 1 y3.2.1.length).bind fun x19=>
  some (Pu.Step.nx (y3.1,x17,x18,x19))
 else
  some (Pu.Step.br (s17.1,s17.2.1,s17.2.2.1,s17.2.2.2))
def P.G0 (φ:Nat)(a0:Ty.J5):Option (Ty.J5×Int):=
 (P.D8 a0).bind fun x1=>
 if x1≠0 then
  some ((Ty.J5.mk 0 [] []),x1)
 else
  (P.C5 φ a0).bind fun x2=>
  (P.B9 φ x2).bind fun x3=>
  (Pu.ix x3 (a0.Next.length:Int)).bind fun x4=>
  (Pu.ix x3 a0.Start).bind fun x5=>
  (Pu.whl (P.G0.b0 φ a0 x2 x3 x4) φ ((Pu.mput x5 0 []),[],[],[a0.Start])).bind fun y1=>
  y1.cs (fun s19=>
   some ((Ty.J5.mk 0 s19.2.1 s19.2.2.1),0)) (fun _=>none)
def P.E5.b2 (y1:(List Ty.B6))(i7:Int)(x7:Bool)(s24:Bool):Option Bool:=
 (if s24 then
     (if !x7 then
         some true
       else
        (Pu.ix y1 (i7:Int)).bind fun x8=>
        some (decide (x8.Kind≠2))).bind fun y5=>
     some y5
   else
    some false).bind fun y4=>
 some y4
def P.E5.b1 (x3:Ty.B6)(_:Int)(x4:Int)(s15:(List Ty.B6)):Option (List Ty.B6):=
 (Pu.ix s15 x4).bind fun _=>
 some (Pu.st s15 x4 x3)
def P.E5.b0 (_:Int)(x3:Ty.B6)(s9:(List Ty.B6)):Option (List Ty.B6):=
 (Pu.forP (P.E5.b1 x3) 0 x3.Nons s9).bind fun y2=>
 some y2
def P.E5 (φ:Nat)(a0:Ty.E8):Option (Ty.J5×Bool×Int):=
 (P.A9 a0).bind fun x1=>
 if x1.2≠0 then
  some ((Ty.J5.mk 0 [] []),false,x1.2)
 else
  (Pu.mk 32 a0.Nons a0.Nons (Ty.B6.mk 0 [])).bind fun x2=>
  (Pu.forP (P.E5.b0) 0 x1.1 x2).bind fun y1=>
  (P.E7 φ a0).bind fun x6=>
  (Pu.forP (P.E5.b2 y1) 0 x6 true).bind fun y3=>
  (P.F6 (Ty.G3.mk a0 y1 [])).bind fun x9=>
  (P.F6 x9.1).bind fun x10=>
  (P.B4 φ x10.1 a0.Start x9.2 x10.2).bind fun x11=>
  if 1000<(x11.next_.length:Int) then
   some ((Ty.J5.mk 0 [] []),false,2)
  else
   (P.B8 φ x11 x9.2 x10.2).bind fun x12=>
   if !x12.2 then
    some ((Ty.J5.mk 0 [] []),false,2)
   else
    (P.G0 φ x12.1).bind fun x13=>
    some (x13.1,y3,x13.2)
def P.J7:Option Ty.E8:=
 some (Ty.E8.mk 2 1 0 [(Ty.E2.mk 0 [(Ty.F2.mk true 0)]),(Ty.E2.mk 0 [(Ty.F2.mk true 1),(Ty.F2.mk false 0)])])
def P.J3 (a0:Int)(a1:Int):Option Int:=
 (Pu.rem a0 a1).bind fun x1=>
 (if x1<0 then
     some (Pu.W (x1+a1))
   else
    some x1).bind fun y1=>
 some y1
def P.D7 (a0:Ty.K3)(a1:Int):Option (Ty.K3×Int):=
 if(a0.l.length:Int)=0 then
  some (a0,0)
 else
  (Pu.ix a0.l 0).bind fun x1=>
  (Pu.sub a0.l 1 a0.l.length).bind fun x2=>
  (P.J3 x1 a1).bind fun x3=>
  some ((Ty.K3.mk x2),x3)
def P.F5.b1 (x1:(Ty.K3×Int))(_:Int)(_:Int)(s24:((List Int)×(List Int))):Option ((List Int)×(List Int)):=
 (P.D7 (Ty.K3.mk s24.1) (Pu.W ((Pu.W (1+x1.2))+1))).bind fun x10=>
 (Pu.app 8 s24.2 [(Pu.W (x10.2-1))]).bind fun x11=>
 some (x10.1.l,x11)
def P.F5.b0 (x1:(Ty.K3×Int))(x2:(Ty.K3×Int))(_:Int)(_:Int)(s14:((List Int)×(List Int)×(List (List Int)))):Option ((List Int)×(List Int)×(List (List Int))):=
 (P.D7 (Ty.K3.mk s14.1) 3).bind fun x6=>
 (Pu.app 8 s14.2.1 [(Pu.W (x6.2-1))]).bind fun x7=>
 (Pu.ranO (Pu.W (1+x2.2))).bind fun x9=>
 (Pu.forP (P.F5.b1 x1) 0 x9 (x6.1.l,[])).bind fun y2=>
 (Pu.app 24 s14.2.2 [y2.2]).bind fun x12=>
 some (y2.1,x7,x12)
def P.F5 (a0:(List Int)):Option Ty.J5:=
 (P.D7 (Ty.K3.mk a0) 6).bind fun x1=>
 (P.D7 x1.1 3).bind fun x2=>
 (P.D7 x2.1 (Pu.W (1+x1.2))).bind fun x3=>
 (Pu.ranO (Pu.W (1+x1.2))).bind fun x5=>
 (Pu.forP (P.F5.b0 x1 x2) 0 x5 (x3.1.l,[],[])).bind fun y1=>
 some (Ty.J5.mk x3.2 y1.2.1 y1.2.2)
def P.D2.b1 (i5:Int)(i6:Int)(x5:Int)(s14:(List Ty.E2)):Option (List Ty.E2):=
 (if 0≤x5 then
     (Pu.app 32 s14 [(Ty.E2.mk (i5:Int) [(Ty.F2.mk true (i6:Int)),(Ty.F2.mk false x5)])]).bind fun x6=>
     some x6
   else
    some s14).bind fun y4=>
 some y4
def P.D2.b0 (a0:Ty.J5)(i5:Int)(x4:(List Int))(s11:(List Ty.E2)):Option (List Ty.E2):=
 (Pu.forP (P.D2.b1 i5) 0 x4 s11).bind fun y3=>
 (Pu.ix a0.Accept (i5:Int)).bind fun x7=>
 (if 0≤x7 then
     (Pu.app 32 y3 [(Ty.E2.mk (i5:Int) [])]).bind fun x8=>
     some x8
   else
    some y3).bind fun y5=>
 some y5
def P.D2 (a0:Ty.J5):Option (Ty.E8×Int):=
 (P.D8 a0).bind fun x1=>
 if x1≠0 then
  some ((Ty.E8.mk 0 0 0 []),x1)
 else
  (if decide (10<(a0.Accept.length:Int)) then
      some true
    else
     (Pu.ix a0.Next 0).bind fun x2=>
     some (decide (8<(x2.length:Int)))).bind fun y1=>
  if y1 then
   some ((Ty.E8.mk 0 0 0 []),2)
  else
   (Pu.ix a0.Next 0).bind fun x3=>
   (Pu.forP (P.D2.b0 a0) 0 a0.Next []).bind fun y2=>
   (P.E1 (Ty.E8.mk (x3.length:Int) (a0.Accept.length:Int) a0.Start y2)).bind fun x9=>
   if x9≠0 then
    some ((Ty.E8.mk 0 0 0 []),x9)
   else
    some ((Ty.E8.mk (x3.length:Int) (a0.Accept.length:Int) a0.Start y2),0)
def P.K2:Nat→((List Ty.J4))→(Int)→Option (List Int)
 | 0,_,_=>none
 | φ+1,a0,a1=>
 (Pu.ix a0 a1).bind fun x1=>
 if x1.from_<0 then
  some []
 else
  (Pu.ix a0 a1).bind fun x2=>
  (P.K2 φ a0 x2.from_).bind fun x3=>
  (Pu.ix a0 a1).bind fun x4=>
  (Pu.app 8 x3 [x4.by_]).bind fun x5=>
  some x5
def P.K0 (a0:Ty.J5)(a1:Int)(a2:Int):Option Int:=
 if a1<0 then
  some (-1)
 else
  (Pu.ix a0.Next a1).bind fun x1=>
  (Pu.ix x1 a2).bind fun x2=>
  some x2
def P.E4.b1 (a0:Ty.J5)(a1:Ty.J5)(s13:((List Ty.J4)×(List ((Int×Int)×Bool))×Int))(x6:Ty.J4)(_:Int)(x11:Int)(s25:((List Ty.J4)×(List ((Int×Int)×Bool)))):Option ((List Ty.J4)×(List ((Int×Int)×Bool))):=
 (P.K0 a0 x6.a x11).bind fun x13=>
 (P.K0 a1 x6.b x11).bind fun x14=>
 (if !((Pu.mget (x13,x14) s25.2).getD false) then
     (Pu.app 32 s25.1 [(Ty.J4.mk x13 x14 s13.2.2 x11)]).bind fun x15=>
     some (x15,(Pu.mput (x13,x14) true s25.2))
   else
    some (s25.1,s25.2)).bind fun y8=>
 some (y8.1,y8.2)
def P.E4.b0 (φ:Nat)(a0:Ty.J5)(a1:Ty.J5)(s13:((List Ty.J4)×(List ((Int×Int)×Bool))×Int)):Option (Pu.Step ((List Ty.J4)×(List ((Int×Int)×Bool))×Int) ((List Int)×Bool)):=
 if s13.2.2<(s13.1.length:Int) then
  (Pu.ix s13.1 s13.2.2).bind fun x6=>
  (if decide (0≤x6.a) then
      (Pu.ix a0.Accept x6.a).bind fun x7=>
      some (decide (0≤x7))
    else
     some false).bind fun y5=>
  (if decide (0≤x6.b) then
      (Pu.ix a1.Accept x6.b).bind fun x8=>
      some (decide (0≤x8))
    else
     some false).bind fun y6=>
  if !(y5==y6) then
   (P.K2 φ s13.1 s13.2.2).bind fun x9=>
   some (Pu.Step.rt (x9,true))
  else
   (Pu.ix a0.Next 0).bind fun x10=>
   (Pu.ranO (x10.length:Int)).bind fun x12=>
   (Pu.forP (P.E4.b1 a0 a1 s13 x6) 0 x12 (s13.1,s13.2.1)).bind fun y7=>
   some (Pu.Step.nx (y7.1,y7.2,(Pu.W (s13.2.2+1))))
 else
  some (Pu.Step.br (s13.1,s13.2.1,s13.2.2))
def P.E4 (φ:Nat)(a0:Ty.J5)(a1:Ty.J5):Option ((List Int)×Bool):=
 (P.D8 a0).bind fun x1=>
 (if decide (x1≠0) then
     some true
   else
    (P.D8 a1).bind fun x2=>
    some (decide (x2≠0))).bind fun y1=>
 (if y1 then
     some true
   else
    (Pu.ix a0.Next 0).bind fun x3=>
    (Pu.ix a1.Next 0).bind fun x4=>
    some (decide ((x3.length:Int)≠(x4.length:Int)))).bind fun y2=>
 if y2 then
  some ([],false)
 else
  (Pu.whl (P.E4.b0 φ a0 a1) φ ([(Ty.J4.mk a0.Start a1.Start (-1) 0)],(Pu.mput (a0.Start,a1.Start) true []),0)).bind fun y3=>
  y3.cs (fun _=>
   some ([],false)) (fun r=>some r)
def P.D3 (φ:Nat)(a0:(List Int)):Option Bool:=
 (P.F5 a0).bind fun x1=>
 (P.J7).bind fun x2=>
 (P.E5 φ x2).bind fun x3=>
 if(((decide (x3.2.2≠0)) ||(!x3.2.1)) ||(decide ((x3.1.Next.length:Int)≠2))) then
  some false
 else
  (P.D2 x1).bind fun x4=>
  if x4.2≠0 then
   some true
  else
   (P.E5 φ x4.1).bind fun x5=>
   if x5.2.2=2 then
    some true
   else
    if((decide (x5.2.2≠0)) ||(!x5.2.1)) then
     some false
    else
     (P.E4 φ x5.1 x1).bind fun x6=>
     some (!x6.2)
end Go.Proofs.Ytmfkjilndpchbaa
