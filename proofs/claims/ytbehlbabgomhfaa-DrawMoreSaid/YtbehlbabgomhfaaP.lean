/- Plain functions, printed by wip/tools/lift.py. -/
import Derived.Test.YtbehlbabgomhfaaOwC
namespace Go.Proofs.Ytbehlbabgomhfaa
open Go Go.Ab
/-! parlmake_Below -/
def P.parlmake_Below (a0 : Int) (a1 : Int) : Option Int :=
  (Pu.rem a0 a1).bind fun x1 =>
  (if x1 < 0 then
      some (Pu.W (x1 + a1))
    else
      some x1).bind fun y1 =>
  some y1
/-! parlkeep5_below -/
def P.parlkeep5_below (a0 : Int) (a1 : Int) : Option Int :=
  (P.parlmake_Below a0 a1).bind fun x1 =>
  some x1
/-! draw_Number -/
def P.draw_Number.b2 (i6 : Int) (x5 : Bool) (s10 : Int) : Option Int :=
  (if x5 then
      some (Pu.W ((Pu.W (s10 * 2)) + 1))
    else
      some (Pu.W (s10 * 2))).bind fun y6 =>
  some y6
def P.draw_Number.b1 (a0 : Int) (a1 : (List Bool)) (s4 : Int) (s6 : Int) : Option (Pu.Step Int (Int × Int × Int)) :=
  if (Pu.W (s6 + s4)) ≤ (a1.length : Int) then
    (Pu.sub a1 s6 (Pu.W (s6 + s4))).bind fun x4 =>
    (Pu.forP (P.draw_Number.b2) 0 x4 0).bind fun y5 =>
    if y5 < a0 then
      some (Pu.Step.rt (y5, (Pu.W (s6 + s4)), 0))
    else
      some (Pu.Step.nx (Pu.W (s6 + s4)))
  else
    some (Pu.Step.br s6)
def P.draw_Number.b0 (a0 : Int) (s2 : Int) : Option (Pu.Step Int Unit) :=
  (Pu.shl .i64 1 s2).bind fun x2 =>
  if x2 < a0 then
    some (Pu.Step.nx (Pu.W (s2 + 1)))
  else
    some (Pu.Step.br s2)
def P.draw_Number (φ : Nat) (a0 : Int) (a1 : (List Bool)) : Option (Int × Int × Int) :=
  if ((decide (a0 < 1)) || (decide (1000000000 < a0))) then
    some (0, 0, 1)
  else
    (Pu.whl (P.draw_Number.b0 a0) φ 0).bind fun y1 =>
    y1.cs (fun s4 =>
      (Pu.whl (P.draw_Number.b1 a0 a1 s4) φ 0).bind fun y3 =>
      y3.cs (fun s8 =>
        some (0, 0, 5)) (fun r => some r)) (fun r => none)
/-! parlkeep5_DrawMore -/
def P.parlkeep5_DrawMore (φ : Nat) (a0 : Int) (a1 : (List Bool)) (a2 : (List Bool)) : Option Bool :=
  (P.parlkeep5_below a0 100).bind fun x1 =>
  (P.draw_Number φ 2 [true]).bind fun x2 =>
  if ((decide (x2.1 ≠ 1)) || (decide (x2.2.2 ≠ 0))) then
    some false
  else
    (P.draw_Number φ (Pu.W (1 + x1)) a1).bind fun x3 =>
    if x3.2.2 ≠ 0 then
      some ((decide (x3.2.2 = 5)) && (decide (x3.2.1 = 0)))
    else
      if ((decide (x3.2.1 < 0)) || (decide ((a1.length : Int) < x3.2.1))) then
        some false
      else
        (Pu.sub a1 0 x3.2.1).bind fun x4 =>
        (P.slices_Concat_bool_bool [x4, a2]).bind fun x5 =>
        (P.draw_Number φ (Pu.W (1 + x1)) x5).bind fun x6 =>
        if (((decide (x6.2.2 ≠ 0)) || (decide (x3.1 ≠ x6.1))) || (decide (x6.2.1 ≠ x3.2.1))) then
          some false
        else
          if x3.2.1 = 0 then
            some true
          else
            (Pu.sub a1 0 (Pu.W (x3.2.1 - 1))).bind fun x7 =>
            (P.draw_Number φ (Pu.W (1 + x1)) x7).bind fun x8 =>
            some (decide (x8.2.2 = 5))
end Go.Proofs.Ytbehlbabgomhfaa
