import Derived.Test.YtmeigkelacoibaaTy
namespace Go.Proofs.Ytmeigkelacoibaa
open Go Go.Ab
def P.E3 (a0 : Int) (a1 : Int) : Option Int :=
 (Pu.rem a0 a1).bind fun x1 =>
 (if x1 < 0 then
     some (Pu.W (x1 + a1))
   else
    some x1).bind fun y1 =>
 some y1
def P.A8 (a0 : Ty.E9) (a1 : Int) : Option (Ty.E9 × Int) :=
 if (a0.l.length : Int) = 0 then
  some (a0, 0)
 else
  (Pu.ix a0.l 0).bind fun x1 =>
  (Pu.sub a0.l 1 a0.l.length).bind fun x2 =>
  (P.E3 x1 a1).bind fun x3 =>
  some ((Ty.E9.mk x2), x3)
def P.D2.b1 (a1 : Ty.A6) (x1 : Ty.A6) (i3 : Int) (x2 : Int) (s9 : Bool) : Option Bool :=
 (if s9 then
     (Pu.ix x1.Right x2).bind fun x4 =>
     (Pu.ix a1.Right x2).bind fun x5 =>
     some ((x4.Term == x5.Term) && (x4.N == x5.N))
   else
    some false).bind fun y4 =>
 some y4
def P.D2.b0 (a1 : Ty.A6) (i1 : Int) (x1 : Ty.A6) (s2 : Unit) : Option (Pu.Step Unit Bool) :=
 if ((decide (x1.Left ≠ a1.Left)) || (decide ((x1.Right.length : Int) ≠ (a1.Right.length : Int)))) then
  some (Pu.Step.nx ())
 else
  (Pu.ranO (x1.Right.length : Int)).bind fun x3 =>
  (Pu.forP (P.D2.b1 a1 x1) 0 x3 true).bind fun y3 =>
  if y3 then
   some (Pu.Step.rt true)
  else
   some (Pu.Step.nx ())
def P.D2 (a0 : (List Ty.A6)) (a1 : Ty.A6) : Option Bool :=
 (Pu.forL (P.D2.b0 a1) 0 a0 ()).bind fun y1 =>
 y1.cs (fun s4 =>
  some false) (fun r => some r)
def P.B9.b1 (x1 : (Ty.E9 × Int)) (x2 : (Ty.E9 × Int)) (i10 : Int) (x9 : Int) (s29 : ((List Int) × (List Ty.D1))) : Option ((List Int) × (List Ty.D1)) :=
 (P.A8 (Ty.E9.mk s29.1) 2).bind fun x11 =>
 (if x11.2 = 0 then
     (P.A8 x11.1 (Pu.W (1 + x1.2))).bind fun x12 =>
     (Pu.app 16 s29.2 [(Ty.D1.mk true x12.2)]).bind fun x13 =>
     some (x12.1.l, x13)
   else
    (P.A8 x11.1 (Pu.W (1 + x2.2))).bind fun x14 =>
    (Pu.app 16 s29.2 [(Ty.D1.mk false x14.2)]).bind fun x15 =>
    some (x14.1.l, x15)).bind fun y3 =>
 some (y3.1, y3.2)
def P.B9.b0 (x1 : (Ty.E9 × Int)) (x2 : (Ty.E9 × Int)) (i6 : Int) (x5 : Int) (s18 : ((List Int) × (List Ty.A6))) : Option ((List Int) × (List Ty.A6)) :=
 (P.A8 (Ty.E9.mk s18.1) (Pu.W (1 + x2.2))).bind fun x7 =>
 (P.A8 x7.1 4).bind fun x8 =>
 (Pu.ranO x8.2).bind fun x10 =>
 (Pu.forP (P.B9.b1 x1 x2) 0 x10 (x8.1.l, [])).bind fun y2 =>
 (P.D2 s18.2 (Ty.A6.mk x7.2 y2.2)).bind fun x16 =>
 (if !x16 then
     (Pu.app 32 s18.2 [(Ty.A6.mk x7.2 y2.2)]).bind fun x17 =>
     some x17
   else
    some s18.2).bind fun y4 =>
 some (y2.1, y4)
def P.B9 (a0 : (List Int)) : Option Ty.B2 :=
 (P.A8 (Ty.E9.mk a0) 3).bind fun x1 =>
 (P.A8 x1.1 4).bind fun x2 =>
 (P.A8 x2.1 (Pu.W (1 + x2.2))).bind fun x3 =>
 (P.A8 x3.1 8).bind fun x4 =>
 (Pu.ranO (Pu.W (1 + x4.2))).bind fun x6 =>
 (Pu.forP (P.B9.b0 x1 x2) 0 x6 (x4.1.l, [])).bind fun y1 =>
 some (Ty.B2.mk (Pu.W (1 + x1.2)) (Pu.W (1 + x2.2)) x3.2 y1.2)
def P.F3 (a0 : Int) (a1 : Int) : Option Int :=
 (P.E3 a0 a1).bind fun x1 =>
 some x1
def P.F7 (a0 : Int) : Option Bool :=
 some (decide (a0 ≠ a0))
def P.C2 (a0 : Int) (a1 : Int) : Option Int :=
 (P.F7 a0).bind fun x1 =>
 (P.F7 a1).bind fun x2 =>
 if x1 then
  if x2 then
   some 0
  else
   some (-1)
 else
  if x2 then
   some 1
  else
   if a0 < a1 then
    some (-1)
   else
    if a1 < a0 then
     some 1
    else
     some 0
def P.F6 (a0 : Ty.D1) (a1 : Ty.D1) : Option Int :=
 if (a0.Term && (!a1.Term)) then
  some (-1)
 else
  if ((!a0.Term) && a1.Term) then
   some 1
  else
   (P.C2 a0.N a1.N).bind fun x1 =>
   some x1
def P.C1.b0 (a1 : (List Ty.D1)) (i1 : Int) (x1 : Ty.D1) (s1 : Unit) : Option (Pu.Step Unit Int) :=
 if (a1.length : Int) ≤ (i1 : Int) then
  some (Pu.Step.rt 1)
 else
  (Pu.ix a1 (i1 : Int)).bind fun x2 =>
  (P.F6 x1 x2).bind fun x3 =>
  if x3 ≠ 0 then
   some (Pu.Step.rt x3)
  else
   some (Pu.Step.nx ())
def P.C1 (a0 : (List Ty.D1)) (a1 : (List Ty.D1)) : Option Int :=
 (Pu.forL (P.C1.b0 a1) 0 a0 ()).bind fun y1 =>
 y1.cs (fun s3 =>
  if (a0.length : Int) < (a1.length : Int) then
   some (-1)
  else
   some 0) (fun r => some r)
def P.F5 (a0 : Ty.A6) (a1 : Ty.A6) : Option Int :=
 (P.C2 a0.Left a1.Left).bind fun x1 =>
 if x1 ≠ 0 then
  some x1
 else
  (P.C1 a0.Right a1.Right).bind fun x2 =>
  some x2
def P.C4.b2 (x1 : Ty.A6) (i14 : Int) (x4 : Ty.A6) (s25 : Unit) : Option (Pu.Step Unit (Pu.Step Unit Int)) :=
 (P.F5 x4 x1).bind fun x5 =>
 if x5 = 0 then
  some (Pu.Step.rt (Pu.Step.rt 6))
 else
  some (Pu.Step.nx ())
def P.C4.b1 (a0 : Ty.B2) (i8 : Int) (x2 : Ty.D1) (s14 : Unit) : Option (Pu.Step Unit (Pu.Step Unit Int)) :=
 (if decide (x2.N < 0) then
     some true
   else
    some (x2.Term && (decide (a0.Terms ≤ x2.N)))).bind fun y5 =>
 (if y5 then
     some true
   else
    some ((!x2.Term) && (decide (a0.Nons ≤ x2.N)))).bind fun y6 =>
 if y6 then
  some (Pu.Step.rt (Pu.Step.rt 3))
 else
  some (Pu.Step.nx ())
def P.C4.b0 (a0 : Ty.B2) (i6 : Int) (x1 : Ty.A6) (s7 : Unit) : Option (Pu.Step Unit Int) :=
 if ((decide (x1.Left < 0)) || (decide (a0.Nons ≤ x1.Left))) then
  some (Pu.Step.rt 3)
 else
  if 4 < (x1.Right.length : Int) then
   some (Pu.Step.rt 2)
  else
   (Pu.forL (P.C4.b1 a0) 0 x1.Right ()).bind fun y3 =>
   y3.cs (fun s16 =>
    (Pu.sub a0.Rules 0 (i6 : Int)).bind fun x3 =>
    (Pu.forL (P.C4.b2 x1) 0 x3 ()).bind fun y7 =>
    y7.cs (fun s27 =>
     some (Pu.Step.nx ())) (fun r => some r)) (fun r => some r)
def P.C4 (a0 : Ty.B2) : Option Int :=
 if ((((((decide (a0.Terms < 1)) || (decide (8 < a0.Terms))) || (decide (a0.Nons < 1))) || (decide (10 < a0.Nons))) || (decide (a0.Start < 0))) || (decide (a0.Nons ≤ a0.Start))) then
  some 1
 else
  if 32 < (a0.Rules.length : Int) then
   some 2
  else
   (Pu.forL (P.C4.b0 a0) 0 a0.Rules ()).bind fun y1 =>
   y1.cs (fun s9 =>
    some 0) (fun r => some r)
def P.B5.b1 (a2 : Bool) (x2 : Int) (i3 : Int) (x7 : Int) (s7 : (List (List Bool))) : Option (List (List Bool)) :=
 (Pu.ix s7 x2).bind fun x9 =>
 (Pu.ix x9 x7).bind fun x10 =>
 some (Pu.st s7 x2 (Pu.st x9 x7 a2))
def P.B5.b0 (a1 : Int) (a2 : Bool) (i1 : Int) (x2 : Int) (s2 : (List (List Bool))) : Option (List (List Bool)) :=
 (Pu.mk 1 a1 a1 false).bind fun x4 =>
 (Pu.ix s2 x2).bind fun x5 =>
 (Pu.ix (Pu.st s2 x2 x4) x2).bind fun x6 =>
 (Pu.ranO (x6.length : Int)).bind fun x8 =>
 (Pu.forP (P.B5.b1 a2 x2) 0 x8 (Pu.st s2 x2 x4)).bind fun y2 =>
 some y2
def P.B5 (a0 : Int) (a1 : Int) (a2 : Bool) : Option (List (List Bool)) :=
 (Pu.mk 24 a0 a0 []).bind fun x1 =>
 (Pu.ranO (x1.length : Int)).bind fun x3 =>
 (Pu.forP (P.B5.b0 a1 a2) 0 x3 x1).bind fun y1 =>
 some y1
def P.C7.b1 (a2 : Int) (x2 : Int) (i3 : Int) (x7 : Int) (s7 : (List (List Int))) : Option (List (List Int)) :=
 (Pu.ix s7 x2).bind fun x9 =>
 (Pu.ix x9 x7).bind fun x10 =>
 some (Pu.st s7 x2 (Pu.st x9 x7 a2))
def P.C7.b0 (a1 : Int) (a2 : Int) (i1 : Int) (x2 : Int) (s2 : (List (List Int))) : Option (List (List Int)) :=
 (Pu.mk 8 a1 a1 0).bind fun x4 =>
 (Pu.ix s2 x2).bind fun x5 =>
 (Pu.ix (Pu.st s2 x2 x4) x2).bind fun x6 =>
 (Pu.ranO (x6.length : Int)).bind fun x8 =>
 (Pu.forP (P.C7.b1 a2 x2) 0 x8 (Pu.st s2 x2 x4)).bind fun y2 =>
 some y2
def P.C7 (a0 : Int) (a1 : Int) (a2 : Int) : Option (List (List Int)) :=
 (Pu.mk 24 a0 a0 []).bind fun x1 =>
 (Pu.ranO (x1.length : Int)).bind fun x3 =>
 (Pu.forP (P.C7.b0 a1 a2) 0 x3 x1).bind fun y1 =>
 some y1
def P.D5.b0 (a1 : Int) (i5 : Int) (x4 : Ty.A6) (s10 : ((List (List (List Bool))) × (List (List (List Int))))) : Option ((List (List (List Bool))) × (List (List (List Int)))) :=
 (P.B5 (Pu.W ((x4.Right.length : Int) + 1)) (Pu.W (a1 + 1)) false).bind fun x5 =>
 (Pu.app 24 s10.1 [x5]).bind fun x6 =>
 (P.C7 (Pu.W ((x4.Right.length : Int) + 1)) (Pu.W (a1 + 1)) (-1)).bind fun x7 =>
 (Pu.app 24 s10.2 [x7]).bind fun x8 =>
 some (x6, x8)
def P.D5 (a0 : Ty.B2) (a1 : Int) : Option Ty.C3 :=
 (P.B5 a0.Nons (Pu.W (a1 + 1)) false).bind fun x1 =>
 (P.B5 a0.Nons (Pu.W (a1 + 1)) false).bind fun x2 =>
 (P.C7 a0.Nons (Pu.W (a1 + 1)) (-1)).bind fun x3 =>
 (Pu.forP (P.D5.b0 a1) 0 a0.Rules ([], [])).bind fun y1 =>
 some (Ty.C3.mk a0 a1 x1 x2 x3 y1.1 y1.2)
def P.D0 (a0 : Ty.C3) (a1 : Ty.D1) (a2 : Int) : Option Bool :=
 if a1.Term then
  some (decide (a2 = 1))
 else
  (Pu.ix a0.has_ a1.N).bind fun x1 =>
  (Pu.ix x1 a2).bind fun x2 =>
  some x2
def P.B7.b2 (a0 : Ty.C3) (a1 : Int) (s2 : ((List (List (List Bool))) × Int)) (x1 : Ty.A6) (x6 : Int) (i5 : Int) (x8 : Int) (s9 : (List (List (List Bool)))) : Option (List (List (List Bool))) :=
 ((Pu.ix s9 a1).bind fun x10 =>
   (Pu.ix x10 s2.2).bind fun x11 =>
   (Pu.ix s9 a1).bind fun x12 =>
   (Pu.ix x12 s2.2).bind fun x13 =>
   (Pu.ix x13 x6).bind fun x14 =>
   if x14 then
    (Pu.ix x11 x6).bind fun x15 =>
    some (Pu.st s9 a1 (Pu.st x10 s2.2 (Pu.st x11 x6 true)))
   else
    (Pu.ix x1.Right s2.2).bind fun x16 =>
    (P.D0 (Ty.C3.mk a0.g a0.n a0.has_ a0.loop_ a0.known_ s9 a0.ways) x16 x8).bind fun x17 =>
    if x17 then
     (Pu.ix s9 a1).bind fun x18 =>
     (Pu.ix x18 (Pu.W (s2.2 + 1))).bind fun x19 =>
     (Pu.ix x19 (Pu.W (x6 - x8))).bind fun x20 =>
     (Pu.ix x11 x6).bind fun x21 =>
     some (Pu.st s9 a1 (Pu.st x10 s2.2 (Pu.st x11 x6 x20)))
    else
     (Pu.ix x11 x6).bind fun x22 =>
     some (Pu.st s9 a1 (Pu.st x10 s2.2 (Pu.st x11 x6 false)))).bind fun y5 =>
 some y5
def P.B7.b1 (a0 : Ty.C3) (a1 : Int) (s2 : ((List (List (List Bool))) × Int)) (x1 : Ty.A6) (i4 : Int) (x6 : Int) (s6 : (List (List (List Bool)))) : Option (List (List (List Bool))) :=
 (Pu.ranO (Pu.W (x6 + 1))).bind fun x9 =>
 (Pu.forP (P.B7.b2 a0 a1 s2 x1 x6) 0 x9 s6).bind fun y4 =>
 some y4
def P.B7.b0 (a0 : Ty.C3) (a1 : Int) (x1 : Ty.A6) (s2 : ((List (List (List Bool))) × Int)) : Option (Pu.Step ((List (List (List Bool))) × Int) Unit) :=
 if 0 ≤ s2.2 then
  (Pu.ranO (Pu.W (a0.n + 1))).bind fun x7 =>
  (Pu.forP (P.B7.b1 a0 a1 s2 x1) 0 x7 s2.1).bind fun y3 =>
  some (Pu.Step.nx (y3, (Pu.W (s2.2 - 1))))
 else
  some (Pu.Step.br (s2.1, s2.2))
def P.B7 (φ : Nat) (a0 : Ty.C3) (a1 : Int) : Option Ty.C3 :=
 (Pu.ix a0.g.Rules a1).bind fun x1 =>
 (Pu.ix a0.ends a1).bind fun x2 =>
 (Pu.ix x2 (x1.Right.length : Int)).bind fun x3 =>
 (Pu.ix x3 0).bind fun x4 =>
 (Pu.whl (P.B7.b0 a0 a1 x1) φ ((Pu.st a0.ends a1 (Pu.st x2 (x1.Right.length : Int) (Pu.st x3 0 true))), (Pu.W ((x1.Right.length : Int) - 1)))).bind fun y1 =>
 y1.cs (fun s4 =>
  some (Ty.C3.mk a0.g a0.n a0.has_ a0.loop_ a0.known_ s4.1 a0.ways)) (fun r => none)
def P.B4.b2 (x2 : Ty.A6) (i5 : Int) (x6 : Bool) (s13 : ((List (List Bool)) × Bool)) : Option ((List (List Bool)) × Bool) :=
 (if x6 then
     (Pu.ix s13.1 x2.Left).bind fun x7 =>
     (Pu.ix x7 (i5 : Int)).bind fun x8 =>
     some (!x8)
   else
    some false).bind fun y5 =>
 (if y5 then
     (Pu.ix s13.1 x2.Left).bind fun x9 =>
     (Pu.ix x9 (i5 : Int)).bind fun x10 =>
     some ((Pu.st s13.1 x2.Left (Pu.st x9 (i5 : Int) true)), true)
   else
    some (s13.1, s13.2)).bind fun y6 =>
 some (y6.1, y6.2)
def P.B4.b1 (φ : Nat) (i2 : Int) (x2 : Ty.A6) (s5 : (Int × Int × Int × (List Ty.A6) × Int × (List (List Bool)) × (List (List Bool)) × (List (List Int)) × (List (List (List Bool))) × (List (List (List Int))) × Bool)) : Option (Int × Int × Int × (List Ty.A6) × Int × (List (List Bool)) × (List (List Bool)) × (List (List Int)) × (List (List (List Bool))) × (List (List (List Int))) × Bool) :=
 (P.B7 φ (Ty.C3.mk (Ty.B2.mk s5.1 s5.2.1 s5.2.2.1 s5.2.2.2.1) s5.2.2.2.2.1 s5.2.2.2.2.2.1 s5.2.2.2.2.2.2.1 s5.2.2.2.2.2.2.2.1 s5.2.2.2.2.2.2.2.2.1 s5.2.2.2.2.2.2.2.2.2.1) (i2 : Int)).bind fun x3 =>
 (Pu.ix x3.ends (i2 : Int)).bind fun x4 =>
 (Pu.ix x4 0).bind fun x5 =>
 (Pu.forP (P.B4.b2 x2) 0 x5 (x3.has_, s5.2.2.2.2.2.2.2.2.2.2)).bind fun y4 =>
 some (x3.g.Terms, x3.g.Nons, x3.g.Start, x3.g.Rules, x3.n, y4.1, x3.loop_, x3.known_, x3.ends, x3.ways, y4.2)
def P.B4.b0 (φ : Nat) (s1 : (Int × Int × Int × (List Ty.A6) × Int × (List (List Bool)) × (List (List Bool)) × (List (List Int)) × (List (List (List Bool))) × (List (List (List Int))) × Bool)) : Option (Pu.Step (Int × Int × Int × (List Ty.A6) × Int × (List (List Bool)) × (List (List Bool)) × (List (List Int)) × (List (List (List Bool))) × (List (List (List Int))) × Bool) Unit) :=
 if s1.2.2.2.2.2.2.2.2.2.2 then
  (Pu.forP (P.B4.b1 φ) 0 s1.2.2.2.1 (s1.1, s1.2.1, s1.2.2.1, s1.2.2.2.1, s1.2.2.2.2.1, s1.2.2.2.2.2.1, s1.2.2.2.2.2.2.1, s1.2.2.2.2.2.2.2.1, s1.2.2.2.2.2.2.2.2.1, s1.2.2.2.2.2.2.2.2.2.1, false)).bind fun y3 =>
  some (Pu.Step.nx (y3.1, y3.2.1, y3.2.2.1, y3.2.2.2.1, y3.2.2.2.2.1, y3.2.2.2.2.2.1, y3.2.2.2.2.2.2.1, y3.2.2.2.2.2.2.2.1, y3.2.2.2.2.2.2.2.2.1, y3.2.2.2.2.2.2.2.2.2.1, y3.2.2.2.2.2.2.2.2.2.2))
 else
  some (Pu.Step.br (s1.1, s1.2.1, s1.2.2.1, s1.2.2.2.1, s1.2.2.2.2.1, s1.2.2.2.2.2.1, s1.2.2.2.2.2.2.1, s1.2.2.2.2.2.2.2.1, s1.2.2.2.2.2.2.2.2.1, s1.2.2.2.2.2.2.2.2.2.1, s1.2.2.2.2.2.2.2.2.2.2))
def P.B4 (φ : Nat) (a0 : Ty.C3) : Option Ty.C3 :=
 (Pu.whl (P.B4.b0 φ) φ (a0.g.Terms, a0.g.Nons, a0.g.Start, a0.g.Rules, a0.n, a0.has_, a0.loop_, a0.known_, a0.ends, a0.ways, true)).bind fun y1 =>
 y1.cs (fun s3 =>
  some (Ty.C3.mk (Ty.B2.mk s3.1 s3.2.1 s3.2.2.1 s3.2.2.2.1) s3.2.2.2.2.1 s3.2.2.2.2.2.1 s3.2.2.2.2.2.2.1 s3.2.2.2.2.2.2.2.1 s3.2.2.2.2.2.2.2.2.1 s3.2.2.2.2.2.2.2.2.2.1)) (fun r => none)
def P.A9.b2 (a0 : Ty.C3) (i4 : Int) (i7 : Int) (x6 : Ty.D1) (s16 : Bool) : Option Bool :=
 (if s16 then
     (if decide ((i7 : Int) = (i4 : Int)) then
         some true
       else
        (P.D0 a0 x6 0).bind fun x7 =>
        some x7).bind fun y6 =>
     some y6
   else
    some false).bind fun y5 =>
 some y5
def P.A9.b1 (a0 : Ty.C3) (a1 : Int) (x2 : Ty.A6) (i4 : Int) (x3 : Ty.D1) (s9 : (List (List Bool))) : Option (List (List Bool)) :=
 (if x3.Term then
     some true
   else
    (Pu.ix a0.has_ x3.N).bind fun x4 =>
    (Pu.ix x4 a1).bind fun x5 =>
    some (!x5)).bind fun y3 =>
 if y3 then
  some s9
 else
  (Pu.forP (P.A9.b2 a0 i4) 0 x2.Right true).bind fun y4 =>
  (Pu.ix s9 x2.Left).bind fun x8 =>
  (Pu.ix s9 x2.Left).bind fun x9 =>
  (Pu.ix x9 x3.N).bind fun x10 =>
  (Pu.ix x8 x3.N).bind fun x11 =>
  some (Pu.st s9 x2.Left (Pu.st x8 x3.N (x10 || y4)))
def P.A9.b0 (a0 : Ty.C3) (a1 : Int) (i3 : Int) (x2 : Ty.A6) (s4 : (List (List Bool))) : Option (List (List Bool)) :=
 (Pu.forP (P.A9.b1 a0 a1 x2) 0 x2.Right s4).bind fun y2 =>
 some y2
def P.A9 (a0 : Ty.C3) (a1 : Int) : Option (List (List Bool)) :=
 (P.B5 a0.g.Nons a0.g.Nons false).bind fun x1 =>
 (Pu.forP (P.A9.b0 a0 a1) 0 a0.g.Rules x1).bind fun y1 =>
 some y1
def P.B3.b0 (rf_census_table_endless : (Ty.C3) → (Int) → (Int) → (Int) → Option (Ty.C3 × Bool)) (a1 : Int) (a2 : Int) (a3 : Int) (x1 : Ty.A6) (i3 : Int) (x5 : Int) (s2 : (Int × Int × Int × (List Ty.A6) × Int × (List (List Bool)) × (List (List Bool)) × (List (List Int)) × (List (List (List Bool))) × (List (List (List Int))))) : Option (Pu.Step (Int × Int × Int × (List Ty.A6) × Int × (List (List Bool)) × (List (List Bool)) × (List (List Int)) × (List (List (List Bool))) × (List (List (List Int)))) (Ty.C3 × Bool)) :=
 (Pu.ix x1.Right a2).bind fun x7 =>
 (P.D0 (Ty.C3.mk (Ty.B2.mk s2.1 s2.2.1 s2.2.2.1 s2.2.2.2.1) s2.2.2.2.2.1 s2.2.2.2.2.2.1 s2.2.2.2.2.2.2.1 s2.2.2.2.2.2.2.2.1 s2.2.2.2.2.2.2.2.2.1 s2.2.2.2.2.2.2.2.2.2) x7 x5).bind fun x8 =>
 (if !x8 then
     some true
   else
    (Pu.ix s2.2.2.2.2.2.2.2.2.1 a1).bind fun x9 =>
    (Pu.ix x9 (Pu.W (a2 + 1))).bind fun x10 =>
    (Pu.ix x10 (Pu.W (a3 - x5))).bind fun x11 =>
    some (!x11)).bind fun y4 =>
 if y4 then
  some (Pu.Step.nx (s2.1, s2.2.1, s2.2.2.1, s2.2.2.2.1, s2.2.2.2.2.1, s2.2.2.2.2.2.1, s2.2.2.2.2.2.2.1, s2.2.2.2.2.2.2.2.1, s2.2.2.2.2.2.2.2.2.1, s2.2.2.2.2.2.2.2.2.2))
 else
  (Pu.ix x1.Right a2).bind fun x12 =>
  (if !x12.Term then
      (Pu.ix x1.Right a2).bind fun x13 =>
      (Pu.ix s2.2.2.2.2.2.2.1 x13.N).bind fun x14 =>
      (Pu.ix x14 x5).bind fun x15 =>
      some x15
    else
     some false).bind fun y5 =>
  (if y5 then
      some (s2.1, s2.2.1, s2.2.2.1, s2.2.2.2.1, s2.2.2.2.2.1, s2.2.2.2.2.2.1, s2.2.2.2.2.2.2.1, s2.2.2.2.2.2.2.2.1, s2.2.2.2.2.2.2.2.2.1, s2.2.2.2.2.2.2.2.2.2, true)
    else
     (rf_census_table_endless (Ty.C3.mk (Ty.B2.mk s2.1 s2.2.1 s2.2.2.1 s2.2.2.2.1) s2.2.2.2.2.1 s2.2.2.2.2.2.1 s2.2.2.2.2.2.2.1 s2.2.2.2.2.2.2.2.1 s2.2.2.2.2.2.2.2.2.1 s2.2.2.2.2.2.2.2.2.2) a1 (Pu.W (a2 + 1)) (Pu.W (a3 - x5))).bind fun x16 =>
     some (x16.1.g.Terms, x16.1.g.Nons, x16.1.g.Start, x16.1.g.Rules, x16.1.n, x16.1.has_, x16.1.loop_, x16.1.known_, x16.1.ends, x16.1.ways, x16.2)).bind fun y6 =>
  if y6.2.2.2.2.2.2.2.2.2.2 then
   some (Pu.Step.rt ((Ty.C3.mk (Ty.B2.mk y6.1 y6.2.1 y6.2.2.1 y6.2.2.2.1) y6.2.2.2.2.1 y6.2.2.2.2.2.1 y6.2.2.2.2.2.2.1 y6.2.2.2.2.2.2.2.1 y6.2.2.2.2.2.2.2.2.1 y6.2.2.2.2.2.2.2.2.2.1), true))
  else
   some (Pu.Step.nx (y6.1, y6.2.1, y6.2.2.1, y6.2.2.2.1, y6.2.2.2.2.1, y6.2.2.2.2.2.1, y6.2.2.2.2.2.2.1, y6.2.2.2.2.2.2.2.1, y6.2.2.2.2.2.2.2.2.1, y6.2.2.2.2.2.2.2.2.2.1))
def P.B3 : Nat → (Ty.C3) → (Int) → (Int) → (Int) → Option (Ty.C3 × Bool)
 | 0, _, _, _, _ => none
 | φ + 1, a0, a1, a2, a3 =>
 (Pu.ix a0.g.Rules a1).bind fun x1 =>
 (if decide (a2 = (x1.Right.length : Int)) then
     some true
   else
    (Pu.ix a0.ends a1).bind fun x2 =>
    (Pu.ix x2 a2).bind fun x3 =>
    (Pu.ix x3 a3).bind fun x4 =>
    some (!x4)).bind fun y1 =>
 if y1 then
  some (a0, false)
 else
  (Pu.ranO (Pu.W (a3 + 1))).bind fun x6 =>
  (Pu.forL (P.B3.b0 (P.B3 φ) a1 a2 a3 x1) 0 x6 (a0.g.Terms, a0.g.Nons, a0.g.Start, a0.g.Rules, a0.n, a0.has_, a0.loop_, a0.known_, a0.ends, a0.ways)).bind fun y2 =>
  y2.cs (fun s4 =>
   some ((Ty.C3.mk (Ty.B2.mk s4.1 s4.2.1 s4.2.2.1 s4.2.2.2.1) s4.2.2.2.2.1 s4.2.2.2.2.2.1 s4.2.2.2.2.2.2.1 s4.2.2.2.2.2.2.2.1 s4.2.2.2.2.2.2.2.2.1 s4.2.2.2.2.2.2.2.2.2), false)) (fun r => some r)
def P.A1.b7 (φ : Nat) (i11 : Int) (x25 : Ty.A6) (i13 : Int) (x26 : Int) (s38 : (Int × Int × Int × (List Ty.A6) × Int × (List (List Bool)) × (List (List Bool)) × (List (List Int)) × (List (List (List Bool))) × (List (List (List Int))) × Bool)) : Option (Int × Int × Int × (List Ty.A6) × Int × (List (List Bool)) × (List (List Bool)) × (List (List Int)) × (List (List (List Bool))) × (List (List (List Int))) × Bool) :=
 (Pu.ix s38.2.2.2.2.2.2.1 x25.Left).bind fun x28 =>
 (Pu.ix x28 x26).bind fun x29 =>
 (if !x29 then
     (P.B3 φ (Ty.C3.mk (Ty.B2.mk s38.1 s38.2.1 s38.2.2.1 s38.2.2.2.1) s38.2.2.2.2.1 s38.2.2.2.2.2.1 s38.2.2.2.2.2.2.1 s38.2.2.2.2.2.2.2.1 s38.2.2.2.2.2.2.2.2.1 s38.2.2.2.2.2.2.2.2.2.1) (i11 : Int) 0 x26).bind fun x30 =>
     some (x30.1.g.Terms, x30.1.g.Nons, x30.1.g.Start, x30.1.g.Rules, x30.1.n, x30.1.has_, x30.1.loop_, x30.1.known_, x30.1.ends, x30.1.ways, x30.2)
   else
    some (s38.1, s38.2.1, s38.2.2.1, s38.2.2.2.1, s38.2.2.2.2.1, s38.2.2.2.2.2.1, s38.2.2.2.2.2.2.1, s38.2.2.2.2.2.2.2.1, s38.2.2.2.2.2.2.2.2.1, s38.2.2.2.2.2.2.2.2.2.1, false)).bind fun y12 =>
 (if y12.2.2.2.2.2.2.2.2.2.2 then
     (Pu.ix y12.2.2.2.2.2.2.1 x25.Left).bind fun x31 =>
     (Pu.ix x31 x26).bind fun x32 =>
     some ((Pu.st y12.2.2.2.2.2.2.1 x25.Left (Pu.st x31 x26 true)), true)
   else
    some (y12.2.2.2.2.2.2.1, s38.2.2.2.2.2.2.2.2.2.2)).bind fun y13 =>
 some (y12.1, y12.2.1, y12.2.2.1, y12.2.2.2.1, y12.2.2.2.2.1, y12.2.2.2.2.2.1, y13.1, y12.2.2.2.2.2.2.2.1, y12.2.2.2.2.2.2.2.2.1, y12.2.2.2.2.2.2.2.2.2.1, y13.2)
def P.A1.b6 (φ : Nat) (i11 : Int) (x25 : Ty.A6) (s33 : (Int × Int × Int × (List Ty.A6) × Int × (List (List Bool)) × (List (List Bool)) × (List (List Int)) × (List (List (List Bool))) × (List (List (List Int))) × Bool)) : Option (Int × Int × Int × (List Ty.A6) × Int × (List (List Bool)) × (List (List Bool)) × (List (List Int)) × (List (List (List Bool))) × (List (List (List Int))) × Bool) :=
 (Pu.ranO (Pu.W (s33.2.2.2.2.1 + 1))).bind fun x27 =>
 (Pu.forP (P.A1.b7 φ i11 x25) 0 x27 (s33.1, s33.2.1, s33.2.2.1, s33.2.2.2.1, s33.2.2.2.2.1, s33.2.2.2.2.2.1, s33.2.2.2.2.2.2.1, s33.2.2.2.2.2.2.2.1, s33.2.2.2.2.2.2.2.2.1, s33.2.2.2.2.2.2.2.2.2.1, s33.2.2.2.2.2.2.2.2.2.2)).bind fun y11 =>
 some (y11.1, y11.2.1, y11.2.2.1, y11.2.2.2.1, y11.2.2.2.2.1, y11.2.2.2.2.2.1, y11.2.2.2.2.2.2.1, y11.2.2.2.2.2.2.2.1, y11.2.2.2.2.2.2.2.2.1, y11.2.2.2.2.2.2.2.2.2.1, y11.2.2.2.2.2.2.2.2.2.2)
def P.A1.b5 (φ : Nat) (s29 : (Int × Int × Int × (List Ty.A6) × Int × (List (List Bool)) × (List (List Bool)) × (List (List Int)) × (List (List (List Bool))) × (List (List (List Int))) × Bool)) : Option (Pu.Step (Int × Int × Int × (List Ty.A6) × Int × (List (List Bool)) × (List (List Bool)) × (List (List Int)) × (List (List (List Bool))) × (List (List (List Int))) × Bool) Unit) :=
 if s29.2.2.2.2.2.2.2.2.2.2 then
  (Pu.forP (P.A1.b6 φ) 0 s29.2.2.2.1 (s29.1, s29.2.1, s29.2.2.1, s29.2.2.2.1, s29.2.2.2.2.1, s29.2.2.2.2.2.1, s29.2.2.2.2.2.2.1, s29.2.2.2.2.2.2.2.1, s29.2.2.2.2.2.2.2.2.1, s29.2.2.2.2.2.2.2.2.2.1, false)).bind fun y10 =>
  some (Pu.Step.nx (y10.1, y10.2.1, y10.2.2.1, y10.2.2.2.1, y10.2.2.2.2.1, y10.2.2.2.2.2.1, y10.2.2.2.2.2.2.1, y10.2.2.2.2.2.2.2.1, y10.2.2.2.2.2.2.2.2.1, y10.2.2.2.2.2.2.2.2.2.1, y10.2.2.2.2.2.2.2.2.2.2))
 else
  some (Pu.Step.br (s29.1, s29.2.1, s29.2.2.1, s29.2.2.2.1, s29.2.2.2.2.1, s29.2.2.2.2.2.1, s29.2.2.2.2.2.2.1, s29.2.2.2.2.2.2.2.1, s29.2.2.2.2.2.2.2.2.1, s29.2.2.2.2.2.2.2.2.2.1, s29.2.2.2.2.2.2.2.2.2.2))
def P.A1.b4 (x1 : Int) (y2 : (List (List Bool))) (i9 : Int) (x18 : Int) (s22 : (List (List Bool))) : Option (List (List Bool)) :=
 (Pu.ix s22 x18).bind fun x20 =>
 (Pu.ix y2 x18).bind fun x21 =>
 (Pu.ix x21 x18).bind fun x22 =>
 (Pu.ix x20 x1).bind fun x23 =>
 some (Pu.st s22 x18 (Pu.st x20 x1 x22))
def P.A1.b3 (x4 : Int) (x6 : Int) (i6 : Int) (x8 : Int) (s12 : (List (List Bool))) : Option (List (List Bool)) :=
 (Pu.ix s12 x6).bind fun x10 =>
 (Pu.ix s12 x6).bind fun x11 =>
 (Pu.ix x11 x8).bind fun x12 =>
 (if x12 then
     some true
   else
    (Pu.ix s12 x6).bind fun x13 =>
    (Pu.ix x13 x4).bind fun x14 =>
    (if x14 then
        (Pu.ix s12 x4).bind fun x15 =>
        (Pu.ix x15 x8).bind fun x16 =>
        some x16
      else
       some false).bind fun y6 =>
    some y6).bind fun y5 =>
 (Pu.ix x10 x8).bind fun x17 =>
 some (Pu.st s12 x6 (Pu.st x10 x8 y5))
def P.A1.b2 (x4 : Int) (i5 : Int) (x6 : Int) (s9 : (List (List Bool))) : Option (List (List Bool)) :=
 (Pu.ranO (s9.length : Int)).bind fun x9 =>
 (Pu.forP (P.A1.b3 x4 x6) 0 x9 s9).bind fun y4 =>
 some y4
def P.A1.b1 (i4 : Int) (x4 : Int) (s6 : (List (List Bool))) : Option (List (List Bool)) :=
 (Pu.ranO (s6.length : Int)).bind fun x7 =>
 (Pu.forP (P.A1.b2 x4) 0 x7 s6).bind fun y3 =>
 some y3
def P.A1.b0 (a0 : Ty.C3) (i1 : Int) (x1 : Int) (s1 : (List (List Bool))) : Option (List (List Bool)) :=
 (P.A9 (Ty.C3.mk a0.g a0.n a0.has_ s1 a0.known_ a0.ends a0.ways) x1).bind fun x3 =>
 (Pu.ranO (x3.length : Int)).bind fun x5 =>
 (Pu.forP (P.A1.b1) 0 x5 x3).bind fun y2 =>
 (Pu.ranO (y2.length : Int)).bind fun x19 =>
 (Pu.forP (P.A1.b4 x1 y2) 0 x19 s1).bind fun y7 =>
 some y7
def P.A1 (φ : Nat) (a0 : Ty.C3) : Option Ty.C3 :=
 (Pu.ranO (Pu.W (a0.n + 1))).bind fun x2 =>
 (Pu.forP (P.A1.b0 a0) 0 x2 a0.loop_).bind fun y1 =>
 (Pu.whl (P.A1.b5 φ) φ (a0.g.Terms, a0.g.Nons, a0.g.Start, a0.g.Rules, a0.n, a0.has_, y1, a0.known_, a0.ends, a0.ways, true)).bind fun y8 =>
 y8.cs (fun s31 =>
  some (Ty.C3.mk (Ty.B2.mk s31.1 s31.2.1 s31.2.2.1 s31.2.2.2.1) s31.2.2.2.2.1 s31.2.2.2.2.2.1 s31.2.2.2.2.2.2.1 s31.2.2.2.2.2.2.2.1 s31.2.2.2.2.2.2.2.2.1 s31.2.2.2.2.2.2.2.2.2.1)) (fun r => none)
def P.B1.b0 (rf_census_table_way : (Ty.C3) → (Int) → (Int) → (Int) → Option (Ty.C3 × Int)) (a1 : Int) (a2 : Int) (i5 : Int) (x9 : Ty.A6) (s1 : (Int × Int × Int × (List Ty.A6) × Int × (List (List Bool)) × (List (List Bool)) × (List (List Int)) × (List (List (List Bool))) × (List (List (List Int))) × Int)) : Option (Int × Int × Int × (List Ty.A6) × Int × (List (List Bool)) × (List (List Bool)) × (List (List Int)) × (List (List (List Bool))) × (List (List (List Int))) × Int) :=
 (if x9.Left = a1 then
     (rf_census_table_way (Ty.C3.mk (Ty.B2.mk s1.1 s1.2.1 s1.2.2.1 s1.2.2.2.1) s1.2.2.2.2.1 s1.2.2.2.2.2.1 s1.2.2.2.2.2.2.1 s1.2.2.2.2.2.2.2.1 s1.2.2.2.2.2.2.2.2.1 s1.2.2.2.2.2.2.2.2.2.1) (i5 : Int) 0 a2).bind fun x10 =>
     some (x10.1.g.Terms, x10.1.g.Nons, x10.1.g.Start, x10.1.g.Rules, x10.1.n, x10.1.has_, x10.1.loop_, x10.1.known_, x10.1.ends, x10.1.ways, (Pu.imin 1000000000 (Pu.W (s1.2.2.2.2.2.2.2.2.2.2 + x10.2))))
   else
    some (s1.1, s1.2.1, s1.2.2.1, s1.2.2.2.1, s1.2.2.2.2.1, s1.2.2.2.2.2.1, s1.2.2.2.2.2.2.1, s1.2.2.2.2.2.2.2.1, s1.2.2.2.2.2.2.2.2.1, s1.2.2.2.2.2.2.2.2.2.1, s1.2.2.2.2.2.2.2.2.2.2)).bind fun y2 =>
 some (y2.1, y2.2.1, y2.2.2.1, y2.2.2.2.1, y2.2.2.2.2.1, y2.2.2.2.2.2.1, y2.2.2.2.2.2.2.1, y2.2.2.2.2.2.2.2.1, y2.2.2.2.2.2.2.2.2.1, y2.2.2.2.2.2.2.2.2.2.1, y2.2.2.2.2.2.2.2.2.2.2)
def P.B8.b0 (rf_census_table_count : (Ty.C3) → (Int) → (Int) → Option (Ty.C3 × Int)) (rf_census_table_way : (Ty.C3) → (Int) → (Int) → (Int) → Option (Ty.C3 × Int)) (a1 : Int) (a2 : Int) (a3 : Int) (x1 : Ty.A6) (i5 : Int) (x11 : Int) (s1 : (Int × Int × Int × (List Ty.A6) × Int × (List (List Bool)) × (List (List Bool)) × (List (List Int)) × (List (List (List Bool))) × (List (List (List Int))) × Int)) : Option (Int × Int × Int × (List Ty.A6) × Int × (List (List Bool)) × (List (List Bool)) × (List (List Int)) × (List (List (List Bool))) × (List (List (List Int))) × Int) :=
 (Pu.ix x1.Right a2).bind fun x13 =>
 (P.D0 (Ty.C3.mk (Ty.B2.mk s1.1 s1.2.1 s1.2.2.1 s1.2.2.2.1) s1.2.2.2.2.1 s1.2.2.2.2.2.1 s1.2.2.2.2.2.2.1 s1.2.2.2.2.2.2.2.1 s1.2.2.2.2.2.2.2.2.1 s1.2.2.2.2.2.2.2.2.2.1) x13 x11).bind fun x14 =>
 (if !x14 then
     some true
   else
    (Pu.ix s1.2.2.2.2.2.2.2.2.1 a1).bind fun x15 =>
    (Pu.ix x15 (Pu.W (a2 + 1))).bind fun x16 =>
    (Pu.ix x16 (Pu.W (a3 - x11))).bind fun x17 =>
    some (!x17)).bind fun y2 =>
 if y2 then
  some (s1.1, s1.2.1, s1.2.2.1, s1.2.2.2.1, s1.2.2.2.2.1, s1.2.2.2.2.2.1, s1.2.2.2.2.2.2.1, s1.2.2.2.2.2.2.2.1, s1.2.2.2.2.2.2.2.2.1, s1.2.2.2.2.2.2.2.2.2.1, s1.2.2.2.2.2.2.2.2.2.2)
 else
  (Pu.ix x1.Right a2).bind fun x18 =>
  (if !x18.Term then
      (Pu.ix x1.Right a2).bind fun x19 =>
      (rf_census_table_count (Ty.C3.mk (Ty.B2.mk s1.1 s1.2.1 s1.2.2.1 s1.2.2.2.1) s1.2.2.2.2.1 s1.2.2.2.2.2.1 s1.2.2.2.2.2.2.1 s1.2.2.2.2.2.2.2.1 s1.2.2.2.2.2.2.2.2.1 s1.2.2.2.2.2.2.2.2.2.1) x19.N x11).bind fun x20 =>
      some (x20.1.g.Terms, x20.1.g.Nons, x20.1.g.Start, x20.1.g.Rules, x20.1.n, x20.1.has_, x20.1.loop_, x20.1.known_, x20.1.ends, x20.1.ways, x20.2)
    else
     some (s1.1, s1.2.1, s1.2.2.1, s1.2.2.2.1, s1.2.2.2.2.1, s1.2.2.2.2.2.1, s1.2.2.2.2.2.2.1, s1.2.2.2.2.2.2.2.1, s1.2.2.2.2.2.2.2.2.1, s1.2.2.2.2.2.2.2.2.2.1, 1)).bind fun y3 =>
  (rf_census_table_way (Ty.C3.mk (Ty.B2.mk y3.1 y3.2.1 y3.2.2.1 y3.2.2.2.1) y3.2.2.2.2.1 y3.2.2.2.2.2.1 y3.2.2.2.2.2.2.1 y3.2.2.2.2.2.2.2.1 y3.2.2.2.2.2.2.2.2.1 y3.2.2.2.2.2.2.2.2.2.1) a1 (Pu.W (a2 + 1)) (Pu.W (a3 - x11))).bind fun x21 =>
  some (x21.1.g.Terms, x21.1.g.Nons, x21.1.g.Start, x21.1.g.Rules, x21.1.n, x21.1.has_, x21.1.loop_, x21.1.known_, x21.1.ends, x21.1.ways, (Pu.imin 1000000000 (Pu.W (s1.2.2.2.2.2.2.2.2.2.2 + (Pu.imin 1000000000 (Pu.W (y3.2.2.2.2.2.2.2.2.2.2 * x21.2)))))))
mutual
def P.B1 : Nat → (Ty.C3) → (Int) → (Int) → Option (Ty.C3 × Int)
 | 0, _, _, _ => none
 | φ + 1, a0, a1, a2 =>
 (Pu.ix a0.has_ a1).bind fun x1 =>
 (Pu.ix x1 a2).bind fun x2 =>
 if !x2 then
  some (a0, 0)
 else
  (Pu.ix a0.loop_ a1).bind fun x3 =>
  (Pu.ix x3 a2).bind fun x4 =>
  if x4 then
   some (a0, (-1))
  else
   (Pu.ix a0.known_ a1).bind fun x5 =>
   (Pu.ix x5 a2).bind fun x6 =>
   if 0 ≤ x6 then
    (Pu.ix a0.known_ a1).bind fun x7 =>
    (Pu.ix x7 a2).bind fun x8 =>
    some (a0, x8)
   else
    (Pu.forP (P.B1.b0 (P.B8 φ) a1 a2) 0 a0.g.Rules (a0.g.Terms, a0.g.Nons, a0.g.Start, a0.g.Rules, a0.n, a0.has_, a0.loop_, a0.known_, a0.ends, a0.ways, 0)).bind fun y1 =>
    (Pu.ix y1.2.2.2.2.2.2.2.1 a1).bind fun x11 =>
    (Pu.ix x11 a2).bind fun x12 =>
    some ((Ty.C3.mk (Ty.B2.mk y1.1 y1.2.1 y1.2.2.1 y1.2.2.2.1) y1.2.2.2.2.1 y1.2.2.2.2.2.1 y1.2.2.2.2.2.2.1 (Pu.st y1.2.2.2.2.2.2.2.1 a1 (Pu.st x11 a2 y1.2.2.2.2.2.2.2.2.2.2)) y1.2.2.2.2.2.2.2.2.1 y1.2.2.2.2.2.2.2.2.2.1), y1.2.2.2.2.2.2.2.2.2.2)
def P.B8 : Nat → (Ty.C3) → (Int) → (Int) → (Int) → Option (Ty.C3 × Int)
 | 0, _, _, _, _ => none
 | φ + 1, a0, a1, a2, a3 =>
 (Pu.ix a0.g.Rules a1).bind fun x1 =>
 (Pu.ix a0.ends a1).bind fun x2 =>
 (Pu.ix x2 a2).bind fun x3 =>
 (Pu.ix x3 a3).bind fun x4 =>
 if !x4 then
  some (a0, 0)
 else
  if a2 = (x1.Right.length : Int) then
   some (a0, 1)
  else
   (Pu.ix a0.ways a1).bind fun x5 =>
   (Pu.ix x5 a2).bind fun x6 =>
   (Pu.ix x6 a3).bind fun x7 =>
   if 0 ≤ x7 then
    (Pu.ix a0.ways a1).bind fun x8 =>
    (Pu.ix x8 a2).bind fun x9 =>
    (Pu.ix x9 a3).bind fun x10 =>
    some (a0, x10)
   else
    (Pu.ranO (Pu.W (a3 + 1))).bind fun x12 =>
    (Pu.forP (P.B8.b0 (P.B1 φ) (P.B8 φ) a1 a2 a3 x1) 0 x12 (a0.g.Terms, a0.g.Nons, a0.g.Start, a0.g.Rules, a0.n, a0.has_, a0.loop_, a0.known_, a0.ends, a0.ways, 0)).bind fun y1 =>
    (Pu.ix y1.2.2.2.2.2.2.2.2.2.1 a1).bind fun x22 =>
    (Pu.ix x22 a2).bind fun x23 =>
    (Pu.ix x23 a3).bind fun x24 =>
    some ((Ty.C3.mk (Ty.B2.mk y1.1 y1.2.1 y1.2.2.1 y1.2.2.2.1) y1.2.2.2.2.1 y1.2.2.2.2.2.1 y1.2.2.2.2.2.2.1 y1.2.2.2.2.2.2.2.1 y1.2.2.2.2.2.2.2.2.1 (Pu.st y1.2.2.2.2.2.2.2.2.2.1 a1 (Pu.st x22 a2 (Pu.st x23 a3 y1.2.2.2.2.2.2.2.2.2.2)))), y1.2.2.2.2.2.2.2.2.2.2)
end
def P.C6.b1 (φ : Nat) (x6 : Int) (i9 : Int) (x8 : Int) (s18 : (Int × Int × Int × (List Ty.A6) × Int × (List (List Bool)) × (List (List Bool)) × (List (List Int)) × (List (List (List Bool))) × (List (List (List Int))) × (List (List Int)))) : Option (Int × Int × Int × (List Ty.A6) × Int × (List (List Bool)) × (List (List Bool)) × (List (List Int)) × (List (List (List Bool))) × (List (List (List Int))) × (List (List Int))) :=
 (Pu.ix s18.2.2.2.2.2.2.2.2.2.2 x6).bind fun x10 =>
 (P.B1 φ (Ty.C3.mk (Ty.B2.mk s18.1 s18.2.1 s18.2.2.1 s18.2.2.2.1) s18.2.2.2.2.1 s18.2.2.2.2.2.1 s18.2.2.2.2.2.2.1 s18.2.2.2.2.2.2.2.1 s18.2.2.2.2.2.2.2.2.1 s18.2.2.2.2.2.2.2.2.2.1) x6 x8).bind fun x11 =>
 (Pu.app 8 x10 [x11.2]).bind fun x12 =>
 (Pu.ix s18.2.2.2.2.2.2.2.2.2.2 x6).bind fun x13 =>
 some (x11.1.g.Terms, x11.1.g.Nons, x11.1.g.Start, x11.1.g.Rules, x11.1.n, x11.1.has_, x11.1.loop_, x11.1.known_, x11.1.ends, x11.1.ways, (Pu.st s18.2.2.2.2.2.2.2.2.2.2 x6 x12))
def P.C6.b0 (φ : Nat) (a1 : Int) (i8 : Int) (x6 : Int) (s15 : (Int × Int × Int × (List Ty.A6) × Int × (List (List Bool)) × (List (List Bool)) × (List (List Int)) × (List (List (List Bool))) × (List (List (List Int))) × (List (List Int)))) : Option (Int × Int × Int × (List Ty.A6) × Int × (List (List Bool)) × (List (List Bool)) × (List (List Int)) × (List (List (List Bool))) × (List (List (List Int))) × (List (List Int))) :=
 (Pu.ranO (Pu.W (a1 + 1))).bind fun x9 =>
 (Pu.forP (P.C6.b1 φ x6) 0 x9 (s15.1, s15.2.1, s15.2.2.1, s15.2.2.2.1, s15.2.2.2.2.1, s15.2.2.2.2.2.1, s15.2.2.2.2.2.2.1, s15.2.2.2.2.2.2.2.1, s15.2.2.2.2.2.2.2.2.1, s15.2.2.2.2.2.2.2.2.2.1, s15.2.2.2.2.2.2.2.2.2.2)).bind fun y2 =>
 some (y2.1, y2.2.1, y2.2.2.1, y2.2.2.2.1, y2.2.2.2.2.1, y2.2.2.2.2.2.1, y2.2.2.2.2.2.2.1, y2.2.2.2.2.2.2.2.1, y2.2.2.2.2.2.2.2.2.1, y2.2.2.2.2.2.2.2.2.2.1, y2.2.2.2.2.2.2.2.2.2.2)
def P.C6 (φ : Nat) (a0 : Ty.B2) (a1 : Int) : Option ((List (List Int)) × Int) :=
 (P.C4 a0).bind fun x1 =>
 if x1 ≠ 0 then
  some ([], x1)
 else
  if ((decide (a1 < 0)) || (decide (24 < a1))) then
   some ([], 1)
  else
   (P.D5 a0 a1).bind fun x2 =>
   (P.B4 φ x2).bind fun x3 =>
   (P.A1 φ x3).bind fun x4 =>
   (Pu.mk 24 a0.Nons a0.Nons []).bind fun x5 =>
   (Pu.ranO (x5.length : Int)).bind fun x7 =>
   (Pu.forP (P.C6.b0 φ a1) 0 x7 (x4.g.Terms, x4.g.Nons, x4.g.Start, x4.g.Rules, x4.n, x4.has_, x4.loop_, x4.known_, x4.ends, x4.ways, x5)).bind fun y1 =>
   some (y1.2.2.2.2.2.2.2.2.2.2, 0)
def P.E8 (φ : Nat) (a0 : Ty.B2) (a1 : Int) : Option ((Option Ty.E6) × Int × Int) :=
 (P.C6 φ a0 a1).bind fun x1 =>
 if x1.2 ≠ 0 then
  some (none, 0, x1.2)
 else
  (Pu.ix x1.1 a0.Start).bind fun x2 =>
  (Pu.ix x2 a1).bind fun x3 =>
  if x3 = (-1) then
   some (none, 0, 9)
  else
   if x3 = 1000000000 then
    some (none, 0, 2)
   else
    some ((some (Ty.E6.mk a0 x1.1 [])), x3, 0)
def P.G0 (φ : Nat) (a0 : Ty.B2) (a1 : Int) : Option (Int × Int) :=
 (P.E8 φ a0 a1).bind fun x1 =>
 Pu.oc2 x1 (fun x2 =>
  some (x2.1, x2.2)) (fun y1 x2 =>
  some (x2.1, x2.2))
def P.F4 : Option Ty.B2 :=
 some (Ty.B2.mk 2 1 0 [(Ty.A6.mk 0 [(Ty.D1.mk true 0)]), (Ty.A6.mk 0 [(Ty.D1.mk true 1), (Ty.D1.mk false 0)])])
def P.F0 (a0 : Ty.E6) (a1 : Ty.D1) (a2 : Int) : Option Int :=
 if !a1.Term then
  (Pu.ix a0.n a1.N).bind fun x1 =>
  (Pu.ix x1 a2).bind fun x2 =>
  some x2
 else
  if a2 = 1 then
   some 1
  else
   some 0
def P.C0.b0 (rf_rank_book_part : (Ty.E6) → (Int) → (Int) → (Int) → (Int) → Option (Ty.E6 × Int)) (a1 : Int) (a2 : Int) (a3 : Int) (i4 : Int) (x2 : Int) (s4 : (Int × Int × Int × (List Ty.A6) × (List (List Int)) × (List ((Int × Int × Int) × Int)) × Int)) : Option (Int × Int × Int × (List Ty.A6) × (List (List Int)) × (List ((Int × Int × Int) × Int)) × Int) :=
 (rf_rank_book_part (Ty.E6.mk (Ty.B2.mk s4.1 s4.2.1 s4.2.2.1 s4.2.2.2.1) s4.2.2.2.2.1 s4.2.2.2.2.2.1) a1 a2 x2 a3).bind fun x4 =>
 some (x4.1.g.Terms, x4.1.g.Nons, x4.1.g.Start, x4.1.g.Rules, x4.1.n, x4.1.many_, (Pu.W (s4.2.2.2.2.2.2 + x4.2)))
mutual
def P.C0 : Nat → (Ty.E6) → (Int) → (Int) → (Int) → Option (Ty.E6 × Int)
 | 0, _, _, _, _ => none
 | φ + 1, a0, a1, a2, a3 =>
 (Pu.ix a0.g.Rules a1).bind fun x1 =>
 if a2 = (x1.Right.length : Int) then
  if a3 = 0 then
   some (a0, 1)
  else
   some (a0, 0)
 else
  if (Pu.mget (a1, a2, a3) a0.many_).isSome then
   some (a0, ((Pu.mget (a1, a2, a3) a0.many_).getD 0))
  else
   (Pu.ranO (Pu.W (a3 + 1))).bind fun x3 =>
   (Pu.forP (P.C0.b0 (P.E1 φ) a1 a2 a3) 0 x3 (a0.g.Terms, a0.g.Nons, a0.g.Start, a0.g.Rules, a0.n, a0.many_, 0)).bind fun y1 =>
   some ((Ty.E6.mk (Ty.B2.mk y1.1 y1.2.1 y1.2.2.1 y1.2.2.2.1) y1.2.2.2.2.1 (Pu.mput (a1, a2, a3) y1.2.2.2.2.2.2 y1.2.2.2.2.2.1)), y1.2.2.2.2.2.2)
def P.E1 : Nat → (Ty.E6) → (Int) → (Int) → (Int) → (Int) → Option (Ty.E6 × Int)
 | 0, _, _, _, _, _ => none
 | φ + 1, a0, a1, a2, a3, a4 =>
 (Pu.ix a0.g.Rules a1).bind fun x1 =>
 (Pu.ix x1.Right a2).bind fun x2 =>
 (P.F0 a0 x2 a3).bind fun x3 =>
 if x3 = 0 then
  some (a0, 0)
 else
  (P.C0 φ a0 a1 (Pu.W (a2 + 1)) (Pu.W (a4 - a3))).bind fun x4 =>
  some (x4.1, (Pu.W (x3 * x4.2)))
end
def P.C8.b0 (rf_rank_book_kids : (Ty.E6) → (Int) → (Int) → (Int) → (Int) → Option (Ty.E6 × (List Ty.A4))) (φ : Nat) (a1 : Ty.D1) (a2 : Int) (i2 : Int) (x1 : Ty.A6) (s4 : (Int × Int × Int × (List Ty.A6) × (List (List Int)) × (List ((Int × Int × Int) × Int)) × Int)) : Option (Pu.Step (Int × Int × Int × (List Ty.A6) × (List (List Int)) × (List ((Int × Int × Int) × Int)) × Int) (Ty.E6 × Ty.A4)) :=
 if x1.Left ≠ a1.N then
  some (Pu.Step.nx (s4.1, s4.2.1, s4.2.2.1, s4.2.2.2.1, s4.2.2.2.2.1, s4.2.2.2.2.2.1, s4.2.2.2.2.2.2))
 else
  (P.C0 φ (Ty.E6.mk (Ty.B2.mk s4.1 s4.2.1 s4.2.2.1 s4.2.2.2.1) s4.2.2.2.2.1 s4.2.2.2.2.2.1) (i2 : Int) 0 a2).bind fun x2 =>
  if s4.2.2.2.2.2.2 < x2.2 then
   (rf_rank_book_kids x2.1 (i2 : Int) 0 a2 s4.2.2.2.2.2.2).bind fun x3 =>
   some (Pu.Step.rt (x3.1, (Ty.A4.mk (i2 : Int) 0 x3.2)))
  else
   some (Pu.Step.nx (x2.1.g.Terms, x2.1.g.Nons, x2.1.g.Start, x2.1.g.Rules, x2.1.n, x2.1.many_, (Pu.W (s4.2.2.2.2.2.2 - x2.2))))
def P.D4.b0 (φ : Nat) (a1 : Int) (a2 : Int) (a3 : Int) (s1 : (Int × Int × Int × (List Ty.A6) × (List (List Int)) × (List ((Int × Int × Int) × Int)) × Int × Int)) : Option (Pu.Step (Int × Int × Int × (List Ty.A6) × (List (List Int)) × (List ((Int × Int × Int) × Int)) × Int × Int) Unit) :=
 (if decide (s1.2.2.2.2.2.2.2 < a3) then
     (P.E1 φ (Ty.E6.mk (Ty.B2.mk s1.1 s1.2.1 s1.2.2.1 s1.2.2.2.1) s1.2.2.2.2.1 s1.2.2.2.2.2.1) a1 a2 s1.2.2.2.2.2.2.2 a3).bind fun x3 =>
     some (x3.1.g.Terms, x3.1.g.Nons, x3.1.g.Start, x3.1.g.Rules, x3.1.n, x3.1.many_, decide (x3.2 ≤ s1.2.2.2.2.2.2.1))
   else
    some (s1.1, s1.2.1, s1.2.2.1, s1.2.2.2.1, s1.2.2.2.2.1, s1.2.2.2.2.2.1, false)).bind fun y3 =>
 if y3.2.2.2.2.2.2 then
  (P.E1 φ (Ty.E6.mk (Ty.B2.mk y3.1 y3.2.1 y3.2.2.1 y3.2.2.2.1) y3.2.2.2.2.1 y3.2.2.2.2.2.1) a1 a2 s1.2.2.2.2.2.2.2 a3).bind fun x4 =>
  some (Pu.Step.nx (x4.1.g.Terms, x4.1.g.Nons, x4.1.g.Start, x4.1.g.Rules, x4.1.n, x4.1.many_, (Pu.W (s1.2.2.2.2.2.2.1 - x4.2)), (Pu.W (s1.2.2.2.2.2.2.2 + 1))))
 else
  some (Pu.Step.br (y3.1, y3.2.1, y3.2.2.1, y3.2.2.2.1, y3.2.2.2.2.1, y3.2.2.2.2.2.1, s1.2.2.2.2.2.2.1, s1.2.2.2.2.2.2.2))
mutual
def P.C8 : Nat → (Ty.E6) → (Ty.D1) → (Int) → (Int) → Option (Ty.E6 × Ty.A4)
 | 0, _, _, _, _ => none
 | φ + 1, a0, a1, a2, a3 =>
 if a1.Term then
  some (a0, (Ty.A4.mk (-1) a1.N []))
 else
  (Pu.forL (P.C8.b0 (P.D4 φ) φ a1 a2) 0 a0.g.Rules (a0.g.Terms, a0.g.Nons, a0.g.Start, a0.g.Rules, a0.n, a0.many_, a3)).bind fun y1 =>
  y1.cs (fun s6 =>
   some ((Ty.E6.mk (Ty.B2.mk s6.1 s6.2.1 s6.2.2.1 s6.2.2.2.1) s6.2.2.2.2.1 s6.2.2.2.2.2.1), (Ty.A4.mk 0 0 []))) (fun r => some r)
def P.D4 : Nat → (Ty.E6) → (Int) → (Int) → (Int) → (Int) → Option (Ty.E6 × (List Ty.A4))
 | 0, _, _, _, _, _ => none
 | φ + 1, a0, a1, a2, a3, a4 =>
 (Pu.ix a0.g.Rules a1).bind fun x1 =>
 if a2 = (x1.Right.length : Int) then
  some (a0, [])
 else
  (Pu.whl (P.D4.b0 φ a1 a2 a3) φ (a0.g.Terms, a0.g.Nons, a0.g.Start, a0.g.Rules, a0.n, a0.many_, a4, 0)).bind fun y1 =>
  y1.cs (fun s3 =>
   (P.C0 φ (Ty.E6.mk (Ty.B2.mk s3.1 s3.2.1 s3.2.2.1 s3.2.2.2.1) s3.2.2.2.2.1 s3.2.2.2.2.2.1) a1 (Pu.W (a2 + 1)) (Pu.W (a3 - s3.2.2.2.2.2.2.2))).bind fun x5 =>
   (Pu.ix x1.Right a2).bind fun x6 =>
   (Pu.quo .i64 s3.2.2.2.2.2.2.1 x5.2).bind fun x7 =>
   (P.C8 φ x5.1 x6 s3.2.2.2.2.2.2.2 x7).bind fun x8 =>
   (Pu.rem s3.2.2.2.2.2.2.1 x5.2).bind fun x9 =>
   (P.D4 φ x8.1 a1 (Pu.W (a2 + 1)) (Pu.W (a3 - s3.2.2.2.2.2.2.2)) x9).bind fun x10 =>
   (Pu.app 40 [x8.2] x10.2).bind fun x11 =>
   some (x10.1, x11)) (fun r => none)
end
def P.G1 (φ : Nat) (a0 : Ty.B2) (a1 : Int) (a2 : Int) : Option (Ty.A4 × Int) :=
 (P.E8 φ a0 a1).bind fun x1 =>
 Pu.oc2 x1 (fun x2 =>
  if x2.2 ≠ 0 then
   some ((Ty.A4.mk 0 0 []), x2.2)
  else
   if ((decide (a2 < 0)) || (decide (x2.1 ≤ a2))) then
    some ((Ty.A4.mk 0 0 []), 5)
   else
    none) (fun y1 x2 =>
  if x2.2 ≠ 0 then
   some ((Ty.A4.mk 0 0 []), x2.2)
  else
   if ((decide (a2 < 0)) || (decide (x2.1 ≤ a2))) then
    some ((Ty.A4.mk 0 0 []), 5)
   else
    (P.C8 φ y1 (Ty.D1.mk false a0.Start) a1 a2).bind fun x3 =>
    some (x3.2, 0))
def P.E4 (a0 : Ty.A4) : Option Bool :=
 some (decide (a0.Rule = (-1)))
def P.D8.b0 (rf_tree_Size : (Ty.A4) → Option Int) (i2 : Int) (x2 : Ty.A4) (s4 : Int) : Option Int :=
 (rf_tree_Size x2).bind fun x3 =>
 some (Pu.W (s4 + x3))
def P.D8 : Nat → (Ty.A4) → Option Int
 | 0, _ => none
 | φ + 1, a0 =>
 (P.E4 a0).bind fun x1 =>
 if x1 then
  some 1
 else
  (Pu.forP (P.D8.b0 (P.D8 φ)) 0 a0.Kids 1).bind fun y1 =>
  some y1
def P.F1 (a0 : Ty.B2) (a1 : Ty.A4) : Option (Ty.D1 × Bool) :=
 (P.E4 a1).bind fun x1 =>
 if x1 then
  (if decide (0 ≤ a1.Term) then
      if decide (a1.Term < a0.Terms) then
       some (decide ((a1.Kids.length : Int) = 0))
      else
       some false
    else
     some false).bind fun y1 =>
  some ((Ty.D1.mk true a1.Term), y1)
 else
  if ((decide (a1.Rule < 0)) || (decide ((a0.Rules.length : Int) ≤ a1.Rule))) then
   some ((Ty.D1.mk false 0), false)
  else
   (Pu.ix a0.Rules a1.Rule).bind fun x2 =>
   some ((Ty.D1.mk false x2.Left), decide (a1.Term = 0))
def P.D9.b0 (rf_tree_valid : (Ty.B2) → (Ty.A4) → Option Bool) (a0 : Ty.B2) (x3 : Ty.A6) (i6 : Int) (x4 : Ty.A4) (s10 : Unit) : Option (Pu.Step Unit Bool) :=
 (P.F1 a0 x4).bind fun x5 =>
 (if !x5.2 then
     some true
   else
    (Pu.ix x3.Right (i6 : Int)).bind fun x6 =>
    some (!((x5.1.Term == x6.Term) && (x5.1.N == x6.N)))).bind fun y4 =>
 (if y4 then
     some true
   else
    (rf_tree_valid a0 x4).bind fun x7 =>
    some (!x7)).bind fun y5 =>
 if y5 then
  some (Pu.Step.rt false)
 else
  some (Pu.Step.nx ())
def P.D9 : Nat → (Ty.B2) → (Ty.A4) → Option Bool
 | 0, _, _ => none
 | φ + 1, a0, a1 =>
 (P.F1 a0 a1).bind fun x1 =>
 (if !x1.2 then
     some true
   else
    (P.E4 a1).bind fun x2 =>
    some x2).bind fun y1 =>
 if y1 then
  some x1.2
 else
  (Pu.ix a0.Rules a1.Rule).bind fun x3 =>
  if (a1.Kids.length : Int) ≠ (x3.Right.length : Int) then
   some false
  else
   (Pu.forL (P.D9.b0 (P.D9 φ) a0 x3) 0 a1.Kids ()).bind fun y2 =>
   y2.cs (fun s12 =>
    some true) (fun r => some r)
def P.F2 (φ : Nat) (a0 : Ty.B2) (a1 : Ty.A4) : Option Int :=
 (P.C4 a0).bind fun x1 =>
 if x1 ≠ 0 then
  some x1
 else
  (P.D8 φ a1).bind fun x2 =>
  if 5000 < x2 then
   some 2
  else
   (P.D9 φ a0 a1).bind fun x3 =>
   if !x3 then
    some 3
   else
    some 0
def P.E7.b0 (rf_tree_word : ((List Int)) → (Ty.A4) → Option (List Int)) (i3 : Int) (x3 : Ty.A4) (s6 : (List Int)) : Option (List Int) :=
 (rf_tree_word s6 x3).bind fun x4 =>
 some x4
def P.E7 : Nat → ((List Int)) → (Ty.A4) → Option (List Int)
 | 0, _, _ => none
 | φ + 1, a0, a1 =>
 (P.E4 a1).bind fun x1 =>
 if x1 then
  (Pu.app 8 a0 [a1.Term]).bind fun x2 =>
  some x2
 else
  (Pu.forP (P.E7.b0 (P.E7 φ)) 0 a1.Kids a0).bind fun y1 =>
  some y1
def P.F9 (φ : Nat) (a0 : Ty.A4) : Option (List Int) :=
 (P.E7 φ [] a0).bind fun x1 =>
 some x1
def P.B0.b0 (a1 : (List Int)) (i1 : Int) (x1 : Int) (s1 : Unit) : Option (Pu.Step Unit Int) :=
 if (a1.length : Int) ≤ (i1 : Int) then
  some (Pu.Step.rt 1)
 else
  (Pu.ix a1 (i1 : Int)).bind fun x2 =>
  (P.C2 x1 x2).bind fun x3 =>
  if x3 ≠ 0 then
   some (Pu.Step.rt x3)
  else
   some (Pu.Step.nx ())
def P.B0 (a0 : (List Int)) (a1 : (List Int)) : Option Int :=
 (Pu.forL (P.B0.b0 a1) 0 a0 ()).bind fun y1 =>
 y1.cs (fun s3 =>
  if (a0.length : Int) < (a1.length : Int) then
   some (-1)
  else
   some 0) (fun r => some r)
def P.D7.b0 (rf_tree_rules : ((List Int)) → (Ty.A4) → Option (List Int)) (i3 : Int) (x3 : Ty.A4) (s6 : (List Int)) : Option (List Int) :=
 (rf_tree_rules s6 x3).bind fun x4 =>
 some x4
def P.D7 : Nat → ((List Int)) → (Ty.A4) → Option (List Int)
 | 0, _, _ => none
 | φ + 1, a0, a1 =>
 (Pu.app 8 a0 [a1.Rule]).bind fun x1 =>
 (P.E4 a1).bind fun x2 =>
 if x2 then
  some x1
 else
  (Pu.forP (P.D7.b0 (P.D7 φ)) 0 a1.Kids x1).bind fun y1 =>
  some y1
def P.E5 (φ : Nat) (a0 : Ty.A4) (a1 : Ty.A4) : Option Int :=
 (P.D8 φ a0).bind fun x1 =>
 (P.D8 φ a1).bind fun x2 =>
 (P.C2 x1 x2).bind fun x3 =>
 if x3 ≠ 0 then
  some x3
 else
  (P.D7 φ [] a0).bind fun x4 =>
  (P.D7 φ [] a1).bind fun x5 =>
  (P.B0 x4 x5).bind fun x6 =>
  if x6 ≠ 0 then
   some x6
  else
   (P.F9 φ a0).bind fun x7 =>
   (P.F9 φ a1).bind fun x8 =>
   (P.B0 x7 x8).bind fun x9 =>
   some x9
def P.B6.b1 (rf_parlmake_tree : (Ty.B2) → (Ty.D1) → (Ty.E9) → (Int) → (Int) → Option (Ty.E9 × Int × Ty.A4 × Bool)) (a0 : Ty.B2) (a4 : Int) (i7 : Int) (x6 : Ty.D1) (s23 : ((List Int) × Int × (List Ty.A4))) : Option (Pu.Step ((List Int) × Int × (List Ty.A4)) (Ty.E9 × Int × Ty.A4 × Bool)) :=
 (rf_parlmake_tree a0 x6 (Ty.E9.mk s23.1) s23.2.1 (Pu.W (a4 - 1))).bind fun x7 =>
 if !x7.2.2.2 then
  some (Pu.Step.rt (x7.1, x7.2.1, (Ty.A4.mk 0 0 []), false))
 else
  (Pu.app 40 s23.2.2 [x7.2.2.1]).bind fun x8 =>
  some (Pu.Step.nx (x7.1.l, x7.2.1, x8))
def P.B6.b0 (a1 : Ty.D1) (i2 : Int) (x1 : Ty.A6) (s8 : (List Int)) : Option (List Int) :=
 (if x1.Left = a1.N then
     (Pu.app 8 s8 [(i2 : Int)]).bind fun x2 =>
     some x2
   else
    some s8).bind fun y2 =>
 some y2
def P.B6 : Nat → (Ty.B2) → (Ty.D1) → (Ty.E9) → (Int) → (Int) → Option (Ty.E9 × Int × Ty.A4 × Bool)
 | 0, _, _, _, _, _ => none
 | φ + 1, a0, a1, a2, a3, a4 =>
 if ((decide ((Pu.W (a3 - 1)) < 0)) || (decide (a4 < 0))) then
  some (a2, (Pu.W (a3 - 1)), (Ty.A4.mk 0 0 []), false)
 else
  if a1.Term then
   some (a2, (Pu.W (a3 - 1)), (Ty.A4.mk (-1) a1.N []), true)
  else
   (Pu.forP (P.B6.b0 a1) 0 a0.Rules []).bind fun y1 =>
   if (y1.length : Int) = 0 then
    some (a2, (Pu.W (a3 - 1)), (Ty.A4.mk 0 0 []), false)
   else
    (P.A8 a2 (y1.length : Int)).bind fun x3 =>
    (Pu.ix y1 x3.2).bind fun x4 =>
    (Pu.ix a0.Rules x4).bind fun x5 =>
    (Pu.forL (P.B6.b1 (P.B6 φ) a0 a4) 0 x5.Right (x3.1.l, (Pu.W (a3 - 1)), [])).bind fun y3 =>
    y3.cs (fun s25 =>
     some ((Ty.E9.mk s25.1), s25.2.1, (Ty.A4.mk x4 0 s25.2.2), true)) (fun r => some r)
def P.F8 (φ : Nat) (a0 : Ty.B2) (a1 : (List Int)) : Option (Ty.A4 × Bool) :=
 (P.B6 φ a0 (Ty.D1.mk false a0.Start) (Ty.E9.mk a1) 60 12).bind fun x1 =>
 some (x1.2.2.1, x1.2.2.2)
def P.D6 (φ : Nat) (a0 : Ty.A4) (a1 : Ty.A4) : Option Bool :=
 (P.E5 φ a0 a1).bind fun x1 =>
 some (decide (x1 = 0))
def P.C9.b0 (φ : Nat) (a0 : (List Ty.A4)) (a1c0 : Ty.A4) (i1 : Int) (x1 : Int) (s1 : Unit) : Option (Pu.Step Unit Int) :=
 (Pu.ix a0 x1).bind fun x3 =>
 (P.D6 φ x3 a1c0).bind fun x4 =>
 if x4 then
  some (Pu.Step.rt x1)
 else
  some (Pu.Step.nx ())
def P.C9 (φ : Nat) (a0 : (List Ty.A4)) (a1c0 : Ty.A4) : Option Int :=
 (Pu.ranO (a0.length : Int)).bind fun x2 =>
 (Pu.forL (P.C9.b0 φ a0 a1c0) 0 x2 ()).bind fun y1 =>
 y1.cs (fun s3 =>
  some (-1)) (fun r => some r)
def P.D3 (φ : Nat) (a0 : (List Ty.A4)) (a1c0 : Ty.A4) : Option Bool :=
 (P.C9 φ a0 a1c0).bind fun x1 =>
 some (decide (0 ≤ x1))
def P.A7.b1 (φ : Nat) (x8 : (Ty.A4 × Int)) (i16 : Int) (x11 : Ty.A4) (s31 : Unit) : Option (Pu.Step Unit (Pu.Step (List Ty.A4) Bool)) :=
 (P.E5 φ x11 x8.1).bind fun x12 =>
 if x12 = 0 then
  some (Pu.Step.rt (Pu.Step.rt false))
 else
  some (Pu.Step.nx ())
def P.A7.b0 (φ : Nat) (x1 : Ty.B2) (x2 : Int) (i9 : Int) (x6 : Int) (s17 : (List Ty.A4)) : Option (Pu.Step (List Ty.A4) Bool) :=
 (P.G1 φ x1 x2 x6).bind fun x8 =>
 (if decide (x8.2 ≠ 0) then
     some true
   else
    (P.F2 φ x1 x8.1).bind fun x9 =>
    some (decide (x9 ≠ 0))).bind fun y3 =>
 (if y3 then
     some true
   else
    (P.F9 φ x8.1).bind fun x10 =>
    some (decide ((x10.length : Int) ≠ x2))).bind fun y4 =>
 if y4 then
  some (Pu.Step.rt false)
 else
  (Pu.forL (P.A7.b1 φ x8) 0 s17 ()).bind fun y5 =>
  y5.cs (fun s33 =>
   (Pu.app 40 s17 [x8.1]).bind fun x13 =>
   some (Pu.Step.nx x13)) (fun r => some r)
def P.A7 (φ : Nat) (a0 : (List Int)) (a1 : (List Int)) (a2 : Int) : Option Bool :=
 (P.B9 a0).bind fun x1 =>
 (P.F3 a2 6).bind fun x2 =>
 (P.F4).bind fun x3 =>
 (P.G0 φ x3 3).bind fun x4 =>
 if ((decide (x4.1 ≠ 1)) || (decide (x4.2 ≠ 0))) then
  some false
 else
  (P.G0 φ x1 x2).bind fun x5 =>
  if ((decide (x5.2 ≠ 0)) || (decide (60 < x5.1))) then
   some true
  else
   (Pu.ranO x5.1).bind fun x7 =>
   (Pu.forL (P.A7.b0 φ x1 x2) 0 x7 []).bind fun y1 =>
   y1.cs (fun s19 =>
    (P.F8 φ x1 a1).bind fun x14 =>
    (if !x14.2 then
        some true
      else
       (P.F9 φ x14.1).bind fun x15 =>
       some (decide ((x15.length : Int) ≠ x2))).bind fun y7 =>
    (if y7 then
        some true
      else
       (P.D3 φ s19 x14.1).bind fun x16 =>
       some x16).bind fun y8 =>
    some y8) (fun r => some r)
end Go.Proofs.Ytmeigkelacoibaa
