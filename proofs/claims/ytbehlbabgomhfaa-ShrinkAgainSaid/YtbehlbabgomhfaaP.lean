/- Plain functions, printed by wip/tools/lift.py. -/
import Derived.Test.YtbehlbabgomhfaaTy
namespace Go.Proofs.Ytbehlbabgomhfaa
open Go Go.Ab
/-! parlmake_Below -/
def P.parlmake_Below (a0 : Int) (a1 : Int) : Option Int :=
  (Pu.rem a0 a1).bind fun x1 =>
  (if x1 < 0 then
      some (Pu.W (x1 + a1))
    else
      some x1).bind fun y1 =>
  some y1
/-! parlmake_Word -/
def P.parlmake_Word.b0 (a0 : Int) (a1 : Int) (i1 : Int) (x1 : Int) (s1 : (List Int)) : Option (Pu.Step (List Int) Unit) :=
  if (s1.length : Int) = a1 then
    some (Pu.Step.br s1)
  else
    (P.parlmake_Below x1 a0).bind fun x2 =>
    (Pu.app 8 s1 [x2]).bind fun x3 =>
    some (Pu.Step.nx x3)
def P.parlmake_Word (a0 : Int) (a1 : Int) (a2 : (List Int)) : Option (List Int) :=
  (Pu.forL (P.parlmake_Word.b0 a0 a1) 0 a2 []).bind fun y1 =>
  y1.cs (fun s3 =>
    some s3) (fun r => none)
/-! shrink_without -/
def P.shrink_without.b0 (a1 : Int) (i1 : Int) (x2 : Int) (s2 : (List Int)) : Option (List Int) :=
  (if (i1 : Int) ≠ a1 then
      (Pu.app 8 s2 [x2]).bind fun x3 =>
      some x3
    else
      some s2).bind fun y2 =>
  some y2
def P.shrink_without (a0 : (List Int)) (a1 : Int) : Option (List Int) :=
  (Pu.mk 8 0 (a0.length : Int) 0).bind fun x1 =>
  (Pu.forP (P.shrink_without.b0 a1) 0 a0 x1).bind fun y1 =>
  some y1
/-! slices_Equal_int_int -/
def P.slices_Equal_int_int.b0 (a0 : (List Int)) (a1 : (List Int)) (i1 : Int) (x1 : Int) (s1 : Unit) : Option (Pu.Step Unit Bool) :=
  (Pu.ix a0 x1).bind fun x3 =>
  (Pu.ix a1 x1).bind fun x4 =>
  if x3 ≠ x4 then
    some (Pu.Step.rt false)
  else
    some (Pu.Step.nx ())
def P.slices_Equal_int_int (a0 : (List Int)) (a1 : (List Int)) : Option Bool :=
  if (a0.length : Int) ≠ (a1.length : Int) then
    some false
  else
    (Pu.ranO (a0.length : Int)).bind fun x2 =>
    (Pu.forL (P.slices_Equal_int_int.b0 a0 a1) 0 x2 ()).bind fun y1 =>
    y1.cs (fun s3 =>
      some true) (fun r => some r)
/-! parlkeep5_below -/
def P.parlkeep5_below (a0 : Int) (a1 : Int) : Option Int :=
  (P.parlmake_Below a0 a1).bind fun x1 =>
  some x1
/-! parlkeep5_fails_1 -/
def P.parlkeep5_fails_1.b0 (a1 : Int) (i1 : Int) (x1 : Int) (s1 : Int) : Option Int :=
  some (Pu.W (s1 + (Pu.W ((Pu.W (x1 + 1)) * (Pu.W ((i1 : Int) + a1))))))
def P.parlkeep5_fails_1 (a0 : (List Int)) (a1 : Int) (a2 : Int) : Option Bool :=
  (Pu.forP (P.parlkeep5_fails_1.b0 a1) 0 a0 0).bind fun y1 =>
  (Pu.rem y1 3).bind fun x2 =>
  some ((decide (x2 = a2)) || (decide ((Pu.W (4 + a1)) < (a0.length : Int))))
/-! parlkeep5_fails -/
def P.parlkeep5_fails (a0 : Int) (a1 : Int) : Option (Int × Int) :=
  (P.parlkeep5_below a0 5).bind fun x1 =>
  (P.parlkeep5_below a1 3).bind fun x2 =>
  some (x1, x2)
/-! slices_Index_int_int -/
def P.slices_Index_int_int.b0 (a0 : (List Int)) (a1 : Int) (i1 : Int) (x1 : Int) (s1 : Unit) : Option (Pu.Step Unit Int) :=
  (Pu.ix a0 x1).bind fun x3 =>
  if a1 = x3 then
    some (Pu.Step.rt x1)
  else
    some (Pu.Step.nx ())
def P.slices_Index_int_int (a0 : (List Int)) (a1 : Int) : Option Int :=
  (Pu.ranO (a0.length : Int)).bind fun x2 =>
  (Pu.forL (P.slices_Index_int_int.b0 a0 a1) 0 x2 ()).bind fun y1 =>
  y1.cs (fun s3 =>
    some (-1)) (fun r => some r)
/-! slices_Contains_int_int -/
def P.slices_Contains_int_int (a0 : (List Int)) (a1 : Int) : Option Bool :=
  (P.slices_Index_int_int a0 a1).bind fun x1 =>
  some (decide (0 ≤ x1))
/-! parlkeep5_ShrinkAgain_1 -/
def P.parlkeep5_ShrinkAgain_1 (a0 : (List Int)) : Option Bool :=
  (P.slices_Contains_int_int a0 2).bind fun x1 =>
  some x1
/-! cmp_isNaN_int -/
def P.cmp_isNaN_int (a0 : Int) : Option Bool :=
  some (decide (a0 ≠ a0))
/-! cmp_Compare_int -/
def P.cmp_Compare_int (a0 : Int) (a1 : Int) : Option Int :=
  (P.cmp_isNaN_int a0).bind fun x1 =>
  (P.cmp_isNaN_int a1).bind fun x2 =>
  if x1 then
    if x2 then
      some 0
    else
      some (-1)
  else
    if x2 then
      some 1
    else
      if a0 < a1 then
        some (-1)
      else
        if a1 < a0 then
          some 1
        else
          some 0
/-! slices_Compare_int_int -/
def P.slices_Compare_int_int.b0 (a1 : (List Int)) (i1 : Int) (x1 : Int) (s1 : Unit) : Option (Pu.Step Unit Int) :=
  if (a1.length : Int) ≤ (i1 : Int) then
    some (Pu.Step.rt 1)
  else
    (Pu.ix a1 (i1 : Int)).bind fun x2 =>
    (P.cmp_Compare_int x1 x2).bind fun x3 =>
    if x3 ≠ 0 then
      some (Pu.Step.rt x3)
    else
      some (Pu.Step.nx ())
def P.slices_Compare_int_int (a0 : (List Int)) (a1 : (List Int)) : Option Int :=
  (Pu.forL (P.slices_Compare_int_int.b0 a1) 0 a0 ()).bind fun y1 =>
  y1.cs (fun s3 =>
    if (a0.length : Int) < (a1.length : Int) then
      some (-1)
    else
      some 0) (fun r => some r)
/-! shrink_Word__parlkeep5_ShrinkAgain_1 -/
def P.shrink_Word__parlkeep5_ShrinkAgain_1.b0 (s7 : ((List Int) × Int)) : Option (Pu.Step ((List Int) × Int) Unit) :=
  if s7.2 < (s7.1.length : Int) then
    (P.shrink_without s7.1 s7.2).bind fun x5 =>
    (P.shrink_without x5 (x5.length : Int)).bind fun x6 =>
    (P.parlkeep5_ShrinkAgain_1 x6).bind fun x7 =>
    (if x7 then
        some (x5, 0)
      else
        some (s7.1, (Pu.W (s7.2 + 1)))).bind fun y3 =>
    some (Pu.Step.nx (y3.1, y3.2))
  else
    some (Pu.Step.br (s7.1, s7.2))
def P.shrink_Word__parlkeep5_ShrinkAgain_1 (φ : Nat) (a0 : (List Int)) : Option ((List Int) × Int) :=
  if 60 < (a0.length : Int) then
    some ([], 2)
  else
    (P.shrink_without a0 (a0.length : Int)).bind fun x1 =>
    (P.parlkeep5_ShrinkAgain_1 x1).bind fun x2 =>
    if !x2 then
      some ([], 7)
    else
      (P.shrink_without a0 (a0.length : Int)).bind fun x3 =>
      (Pu.whl (P.shrink_Word__parlkeep5_ShrinkAgain_1.b0) φ (x3, 0)).bind fun y1 =>
      y1.cs (fun s9 =>
        some (s9.1, 0)) (fun r => none)
/-! shrink_Word__parlkeep5_fails_1 -/
def P.shrink_Word__parlkeep5_fails_1.b0 (a1c0 : Int) (a1c1 : Int) (s7 : ((List Int) × Int)) : Option (Pu.Step ((List Int) × Int) Unit) :=
  if s7.2 < (s7.1.length : Int) then
    (P.shrink_without s7.1 s7.2).bind fun x5 =>
    (P.shrink_without x5 (x5.length : Int)).bind fun x6 =>
    (P.parlkeep5_fails_1 x6 a1c0 a1c1).bind fun x7 =>
    (if x7 then
        some (x5, 0)
      else
        some (s7.1, (Pu.W (s7.2 + 1)))).bind fun y3 =>
    some (Pu.Step.nx (y3.1, y3.2))
  else
    some (Pu.Step.br (s7.1, s7.2))
def P.shrink_Word__parlkeep5_fails_1 (φ : Nat) (a0 : (List Int)) (a1c0 : Int) (a1c1 : Int) : Option ((List Int) × Int) :=
  if 60 < (a0.length : Int) then
    some ([], 2)
  else
    (P.shrink_without a0 (a0.length : Int)).bind fun x1 =>
    (P.parlkeep5_fails_1 x1 a1c0 a1c1).bind fun x2 =>
    if !x2 then
      some ([], 7)
    else
      (P.shrink_without a0 (a0.length : Int)).bind fun x3 =>
      (Pu.whl (P.shrink_Word__parlkeep5_fails_1.b0 a1c0 a1c1) φ (x3, 0)).bind fun y1 =>
      y1.cs (fun s9 =>
        some (s9.1, 0)) (fun r => none)
/-! shrink_Lower__parlkeep5_fails_1 -/
def P.shrink_Lower__parlkeep5_fails_1.b2 (a1c0 : Int) (a1c1 : Int) (i9 : Int) (x7 : Int) (s17 : ((List Int) × Int)) : Option (Pu.Step ((List Int) × Int) Unit) :=
  (P.shrink_without s17.1 (s17.1.length : Int)).bind fun x9 =>
  (Pu.ix x9 s17.2).bind fun x10 =>
  (P.shrink_without (Pu.st x9 s17.2 x7) ((Pu.st x9 s17.2 x7).length : Int)).bind fun x11 =>
  (P.parlkeep5_fails_1 x11 a1c0 a1c1).bind fun x12 =>
  if x12 then
    some (Pu.Step.br ((Pu.st x9 s17.2 x7), (-1)))
  else
    some (Pu.Step.nx (s17.1, s17.2))
def P.shrink_Lower__parlkeep5_fails_1.b1 (a1c0 : Int) (a1c1 : Int) (s13 : ((List Int) × Int)) : Option (Pu.Step ((List Int) × Int) Unit) :=
  if s13.2 < (s13.1.length : Int) then
    (Pu.ix s13.1 s13.2).bind fun x6 =>
    (Pu.ranO x6).bind fun x8 =>
    (Pu.forL (P.shrink_Lower__parlkeep5_fails_1.b2 a1c0 a1c1) 0 x8 (s13.1, s13.2)).bind fun y5 =>
    y5.cs (fun s19 =>
      some (Pu.Step.nx (s19.1, (Pu.W (s19.2 + 1))))) (fun r => none)
  else
    some (Pu.Step.br (s13.1, s13.2))
def P.shrink_Lower__parlkeep5_fails_1.b0 (i1 : Int) (x1 : Int) (s1 : Unit) : Option (Pu.Step Unit ((List Int) × Int)) :=
  if ((decide (x1 < 0)) || (decide (8 ≤ x1))) then
    some (Pu.Step.rt ([], 1))
  else
    some (Pu.Step.nx ())
def P.shrink_Lower__parlkeep5_fails_1 (φ : Nat) (a0 : (List Int)) (a1c0 : Int) (a1c1 : Int) : Option ((List Int) × Int) :=
  if 60 < (a0.length : Int) then
    some ([], 2)
  else
    (Pu.forL (P.shrink_Lower__parlkeep5_fails_1.b0) 0 a0 ()).bind fun y1 =>
    y1.cs (fun s3 =>
      (P.shrink_without a0 (a0.length : Int)).bind fun x2 =>
      (P.shrink_without x2 (x2.length : Int)).bind fun x3 =>
      (P.parlkeep5_fails_1 x3 a1c0 a1c1).bind fun x4 =>
      if !x4 then
        some ([], 7)
      else
        (Pu.whl (P.shrink_Lower__parlkeep5_fails_1.b1 a1c0 a1c1) φ (x2, 0)).bind fun y3 =>
        y3.cs (fun s15 =>
          some (s15.1, 0)) (fun r => none)) (fun r => some r)
/-! parlkeep5_ShrinkAgain -/
def P.parlkeep5_ShrinkAgain (φ : Nat) (a0 : (List Int)) (a1 : Int) (a2 : Int) : Option Bool :=
  (P.parlmake_Word 8 60 a0).bind fun x1 =>
  (P.shrink_Word__parlkeep5_ShrinkAgain_1 φ [1, 2]).bind fun x2 =>
  (if decide (x2.2 ≠ 0) then
      some true
    else
      (P.slices_Equal_int_int x2.1 [2]).bind fun x3 =>
      some (!x3)).bind fun y1 =>
  if y1 then
    some false
  else
    (P.parlkeep5_fails a1 a2).bind fun x4 =>
    (P.parlkeep5_fails_1 x1 x4.1 x4.2).bind fun x5 =>
    if !x5 then
      some true
    else
      (P.shrink_Word__parlkeep5_fails_1 φ x1 x4.1 x4.2).bind fun x6 =>
      (P.shrink_Word__parlkeep5_fails_1 φ x6.1 x4.1 x4.2).bind fun x7 =>
      (P.shrink_Lower__parlkeep5_fails_1 φ x1 x4.1 x4.2).bind fun x8 =>
      (P.shrink_Lower__parlkeep5_fails_1 φ x8.1 x4.1 x4.2).bind fun x9 =>
      (if ((((decide (x6.2 = 0)) && (decide (x7.2 = 0))) && (decide (x8.2 = 0))) && (decide (x9.2 = 0))) then
          (P.slices_Equal_int_int x6.1 x7.1).bind fun x10 =>
          some x10
        else
          some false).bind fun y2 =>
      (if y2 then
          (P.slices_Equal_int_int x8.1 x9.1).bind fun x11 =>
          some x11
        else
          some false).bind fun y3 =>
      (if (y3 && (decide ((x8.1.length : Int) = (x1.length : Int)))) then
          (P.slices_Compare_int_int x8.1 x1).bind fun x12 =>
          some (decide (x12 ≤ 0))
        else
          some false).bind fun y4 =>
      some y4
end Go.Proofs.Ytbehlbabgomhfaa
