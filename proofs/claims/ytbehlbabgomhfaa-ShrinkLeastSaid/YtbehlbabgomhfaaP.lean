/- Plain functions, printed by wip/tools/lift.py. -/
import Derived.Test.YtbehlbabgomhfaaTy
namespace Go.Proofs.Ytbehlbabgomhfaa
open Go Go.Ab
/-! parlmake_Below -/
def P.parlmake_Below (a0 : Int) (a1 : Int) : Option Int :=
  (Pu.rem a0 a1).bind fun x1 =>
  (if x1 < 0 then
      some (Pu.W (x1 + a1))
    else
      some x1).bind fun y1 =>
  some y1
/-! parlmake_Word -/
def P.parlmake_Word.b0 (a0 : Int) (a1 : Int) (i1 : Int) (x1 : Int) (s1 : (List Int)) : Option (Pu.Step (List Int) Unit) :=
  if (s1.length : Int) = a1 then
    some (Pu.Step.br s1)
  else
    (P.parlmake_Below x1 a0).bind fun x2 =>
    (Pu.app 8 s1 [x2]).bind fun x3 =>
    some (Pu.Step.nx x3)
def P.parlmake_Word (a0 : Int) (a1 : Int) (a2 : (List Int)) : Option (List Int) :=
  (Pu.forL (P.parlmake_Word.b0 a0 a1) 0 a2 []).bind fun y1 =>
  y1.cs (fun s3 =>
    some s3) (fun r => none)
/-! shrink_without -/
def P.shrink_without.b0 (a1 : Int) (i1 : Int) (x2 : Int) (s2 : (List Int)) : Option (List Int) :=
  (if (i1 : Int) ≠ a1 then
      (Pu.app 8 s2 [x2]).bind fun x3 =>
      some x3
    else
      some s2).bind fun y2 =>
  some y2
def P.shrink_without (a0 : (List Int)) (a1 : Int) : Option (List Int) :=
  (Pu.mk 8 0 (a0.length : Int) 0).bind fun x1 =>
  (Pu.forP (P.shrink_without.b0 a1) 0 a0 x1).bind fun y1 =>
  some y1
/-! slices_Index_int_int -/
def P.slices_Index_int_int.b0 (a0 : (List Int)) (a1 : Int) (i1 : Int) (x1 : Int) (s1 : Unit) : Option (Pu.Step Unit Int) :=
  (Pu.ix a0 x1).bind fun x3 =>
  if a1 = x3 then
    some (Pu.Step.rt x1)
  else
    some (Pu.Step.nx ())
def P.slices_Index_int_int (a0 : (List Int)) (a1 : Int) : Option Int :=
  (Pu.ranO (a0.length : Int)).bind fun x2 =>
  (Pu.forL (P.slices_Index_int_int.b0 a0 a1) 0 x2 ()).bind fun y1 =>
  y1.cs (fun s3 =>
    some (-1)) (fun r => some r)
/-! slices_Contains_int_int -/
def P.slices_Contains_int_int (a0 : (List Int)) (a1 : Int) : Option Bool :=
  (P.slices_Index_int_int a0 a1).bind fun x1 =>
  some (decide (0 ≤ x1))
/-! parlkeep5_ShrinkLeast_1 -/
def P.parlkeep5_ShrinkLeast_1 (a0 : (List Int)) : Option Bool :=
  (P.slices_Contains_int_int a0 2).bind fun x1 =>
  some x1
/-! slices_Equal_int_int -/
def P.slices_Equal_int_int.b0 (a0 : (List Int)) (a1 : (List Int)) (i1 : Int) (x1 : Int) (s1 : Unit) : Option (Pu.Step Unit Bool) :=
  (Pu.ix a0 x1).bind fun x3 =>
  (Pu.ix a1 x1).bind fun x4 =>
  if x3 ≠ x4 then
    some (Pu.Step.rt false)
  else
    some (Pu.Step.nx ())
def P.slices_Equal_int_int (a0 : (List Int)) (a1 : (List Int)) : Option Bool :=
  if (a0.length : Int) ≠ (a1.length : Int) then
    some false
  else
    (Pu.ranO (a0.length : Int)).bind fun x2 =>
    (Pu.forL (P.slices_Equal_int_int.b0 a0 a1) 0 x2 ()).bind fun y1 =>
    y1.cs (fun s3 =>
      some true) (fun r => some r)
/-! parlkeep5_below -/
def P.parlkeep5_below (a0 : Int) (a1 : Int) : Option Int :=
  (P.parlmake_Below a0 a1).bind fun x1 =>
  some x1
/-! parlkeep5_fails_1 -/
def P.parlkeep5_fails_1.b0 (a1 : Int) (i1 : Int) (x1 : Int) (s1 : Int) : Option Int :=
  some (Pu.W (s1 + (Pu.W ((Pu.W (x1 + 1)) * (Pu.W ((i1 : Int) + a1))))))
def P.parlkeep5_fails_1 (a0 : (List Int)) (a1 : Int) (a2 : Int) : Option Bool :=
  (Pu.forP (P.parlkeep5_fails_1.b0 a1) 0 a0 0).bind fun y1 =>
  (Pu.rem y1 3).bind fun x2 =>
  some ((decide (x2 = a2)) || (decide ((Pu.W (4 + a1)) < (a0.length : Int))))
/-! parlkeep5_fails -/
def P.parlkeep5_fails (a0 : Int) (a1 : Int) : Option (Int × Int) :=
  (P.parlkeep5_below a0 5).bind fun x1 =>
  (P.parlkeep5_below a1 3).bind fun x2 =>
  some (x1, x2)
/-! slices_Grow_int_int__nil -/
def P.slices_Grow_int_int__nil (a1 : Int) : Option (List Int) :=
  if a1 < 0 then
    none
  else
    (if 0 < (Pu.W (a1 - (Pu.W (0 - 0)))) then
        (Pu.mkz 8 (Pu.W (a1 - (Pu.W (0 - 0)))) 0).bind fun x1 =>
        (Pu.sub x1 0 0).bind fun x2 =>
        some x2
      else
        some []).bind fun y1 =>
    some y1
/-! slices_Concat_int_int -/
def P.slices_Concat_int_int.b1 (i4 : Int) (x3 : (List Int)) (s7 : (List Int)) : Option (List Int) :=
  (Pu.app 8 s7 x3).bind fun x4 =>
  some x4
def P.slices_Concat_int_int.b0 (i1 : Int) (x1 : (List Int)) (s1 : Int) : Option Int :=
  if (Pu.W (s1 + (x1.length : Int))) < 0 then
    none
  else
    some (Pu.W (s1 + (x1.length : Int)))
def P.slices_Concat_int_int (a0 : (List (List Int))) : Option (List Int) :=
  (Pu.forP (P.slices_Concat_int_int.b0) 0 a0 0).bind fun y1 =>
  (P.slices_Grow_int_int__nil y1).bind fun x2 =>
  (Pu.forP (P.slices_Concat_int_int.b1) 0 a0 x2).bind fun y2 =>
  some y2
/-! shrink_Word__parlkeep5_ShrinkLeast_1 -/
def P.shrink_Word__parlkeep5_ShrinkLeast_1.b0 (s7 : ((List Int) × Int)) : Option (Pu.Step ((List Int) × Int) Unit) :=
  if s7.2 < (s7.1.length : Int) then
    (P.shrink_without s7.1 s7.2).bind fun x5 =>
    (P.shrink_without x5 (x5.length : Int)).bind fun x6 =>
    (P.parlkeep5_ShrinkLeast_1 x6).bind fun x7 =>
    (if x7 then
        some (x5, 0)
      else
        some (s7.1, (Pu.W (s7.2 + 1)))).bind fun y3 =>
    some (Pu.Step.nx (y3.1, y3.2))
  else
    some (Pu.Step.br (s7.1, s7.2))
def P.shrink_Word__parlkeep5_ShrinkLeast_1 (φ : Nat) (a0 : (List Int)) : Option ((List Int) × Int) :=
  if 60 < (a0.length : Int) then
    some ([], 2)
  else
    (P.shrink_without a0 (a0.length : Int)).bind fun x1 =>
    (P.parlkeep5_ShrinkLeast_1 x1).bind fun x2 =>
    if !x2 then
      some ([], 7)
    else
      (P.shrink_without a0 (a0.length : Int)).bind fun x3 =>
      (Pu.whl (P.shrink_Word__parlkeep5_ShrinkLeast_1.b0) φ (x3, 0)).bind fun y1 =>
      y1.cs (fun s9 =>
        some (s9.1, 0)) (fun r => none)
/-! shrink_Word__parlkeep5_fails_1 -/
def P.shrink_Word__parlkeep5_fails_1.b0 (a1c0 : Int) (a1c1 : Int) (s7 : ((List Int) × Int)) : Option (Pu.Step ((List Int) × Int) Unit) :=
  if s7.2 < (s7.1.length : Int) then
    (P.shrink_without s7.1 s7.2).bind fun x5 =>
    (P.shrink_without x5 (x5.length : Int)).bind fun x6 =>
    (P.parlkeep5_fails_1 x6 a1c0 a1c1).bind fun x7 =>
    (if x7 then
        some (x5, 0)
      else
        some (s7.1, (Pu.W (s7.2 + 1)))).bind fun y3 =>
    some (Pu.Step.nx (y3.1, y3.2))
  else
    some (Pu.Step.br (s7.1, s7.2))
def P.shrink_Word__parlkeep5_fails_1 (φ : Nat) (a0 : (List Int)) (a1c0 : Int) (a1c1 : Int) : Option ((List Int) × Int) :=
  if 60 < (a0.length : Int) then
    some ([], 2)
  else
    (P.shrink_without a0 (a0.length : Int)).bind fun x1 =>
    (P.parlkeep5_fails_1 x1 a1c0 a1c1).bind fun x2 =>
    if !x2 then
      some ([], 7)
    else
      (P.shrink_without a0 (a0.length : Int)).bind fun x3 =>
      (Pu.whl (P.shrink_Word__parlkeep5_fails_1.b0 a1c0 a1c1) φ (x3, 0)).bind fun y1 =>
      y1.cs (fun s9 =>
        some (s9.1, 0)) (fun r => none)
/-! parlkeep5_ShrinkLeast -/
def P.parlkeep5_ShrinkLeast.b1 (x4 : (Int × Int)) (x5 : ((List Int) × Int)) (i15 : Int) (x10 : Int) (s26 : Unit) : Option (Pu.Step Unit Bool) :=
  (Pu.sub x5.1 0 x10).bind fun x12 =>
  (Pu.sub x5.1 (Pu.W (x10 + 1)) x5.1.length).bind fun x13 =>
  (P.slices_Concat_int_int [x12, x13]).bind fun x14 =>
  (P.parlkeep5_fails_1 x14 x4.1 x4.2).bind fun x15 =>
  if x15 then
    some (Pu.Step.rt false)
  else
    some (Pu.Step.nx ())
def P.parlkeep5_ShrinkLeast.b0 (x5 : ((List Int) × Int)) (i12 : Int) (x8 : Int) (s19 : Int) : Option Int :=
  (if decide (s19 < (x5.1.length : Int)) then
      (Pu.ix x5.1 s19).bind fun x9 =>
      some (decide (x9 = x8))
    else
      some false).bind fun y4 =>
  (if y4 then
      some (Pu.W (s19 + 1))
    else
      some s19).bind fun y5 =>
  some y5
def P.parlkeep5_ShrinkLeast (φ : Nat) (a0 : (List Int)) (a1 : Int) (a2 : Int) : Option Bool :=
  (P.parlmake_Word 8 60 a0).bind fun x1 =>
  (P.shrink_Word__parlkeep5_ShrinkLeast_1 φ [1, 2]).bind fun x2 =>
  (if decide (x2.2 ≠ 0) then
      some true
    else
      (P.slices_Equal_int_int x2.1 [2]).bind fun x3 =>
      some (!x3)).bind fun y1 =>
  if y1 then
    some false
  else
    (P.parlkeep5_fails a1 a2).bind fun x4 =>
    (P.shrink_Word__parlkeep5_fails_1 φ x1 x4.1 x4.2).bind fun x5 =>
    (P.parlkeep5_fails_1 x1 x4.1 x4.2).bind fun x6 =>
    if !x6 then
      some (decide (x5.2 = 7))
    else
      (if decide (x5.2 ≠ 0) then
          some true
        else
          (P.parlkeep5_fails_1 x5.1 x4.1 x4.2).bind fun x7 =>
          some (!x7)).bind fun y2 =>
      if y2 then
        some false
      else
        (Pu.forP (P.parlkeep5_ShrinkLeast.b0 x5) 0 x1 0).bind fun y3 =>
        if y3 ≠ (x5.1.length : Int) then
          some false
        else
          (Pu.ranO (x5.1.length : Int)).bind fun x11 =>
          (Pu.forL (P.parlkeep5_ShrinkLeast.b1 x4 x5) 0 x11 ()).bind fun y6 =>
          y6.cs (fun s28 =>
            some true) (fun r => some r)
end Go.Proofs.Ytbehlbabgomhfaa
