/- Plain functions, printed by wip/tools/lift.py. -/
import Derived.Test.YtbehlbabgomhfaaTy
namespace Go.Proofs.Ytbehlbabgomhfaa
open Go Go.Ab
/-! parlmake_Below -/
def P.parlmake_Below (a0 : Int) (a1 : Int) : Option Int :=
  (Pu.rem a0 a1).bind fun x1 =>
  (if x1 < 0 then
      some (Pu.W (x1 + a1))
    else
      some x1).bind fun y1 =>
  some y1
/-! parlkeep5_below -/
def P.parlkeep5_below (a0 : Int) (a1 : Int) : Option Int :=
  (P.parlmake_Below a0 a1).bind fun x1 =>
  some x1
/-! slices_Clone_bool_bool -/
def P.slices_Clone_bool_bool (a0 : (List Bool)) : Option (List Bool) :=
  (Pu.app 1 [] a0).bind fun x1 =>
  some x1
/-! parlkeep5_coins -/
def P.parlkeep5_coins.b1 (i2 : Int) (x3 : (List Bool)) (s5 : (List (List Bool))) : Option (List (List Bool)) :=
  (P.slices_Clone_bool_bool x3).bind fun x4 =>
  (Pu.app 1 x4 [false]).bind fun x5 =>
  (P.slices_Clone_bool_bool x3).bind fun x6 =>
  (Pu.app 1 x6 [true]).bind fun x7 =>
  (Pu.app 24 s5 [x5, x7]).bind fun x8 =>
  some x8
def P.parlkeep5_coins.b0 (i1 : Int) (x1 : Int) (s2 : (List (List Bool))) : Option (List (List Bool)) :=
  (Pu.forP (P.parlkeep5_coins.b1) 0 s2 []).bind fun y2 =>
  some y2
def P.parlkeep5_coins (a0 : Int) : Option (List (List Bool)) :=
  (Pu.ranO a0).bind fun x2 =>
  (Pu.forP (P.parlkeep5_coins.b0) 0 x2 [[]]).bind fun y1 =>
  some y1
/-! draw_Number -/
def P.draw_Number.b2 (i6 : Int) (x5 : Bool) (s10 : Int) : Option Int :=
  (if x5 then
      some (Pu.W ((Pu.W (s10 * 2)) + 1))
    else
      some (Pu.W (s10 * 2))).bind fun y6 =>
  some y6
def P.draw_Number.b1 (a0 : Int) (a1 : (List Bool)) (s4 : Int) (s6 : Int) : Option (Pu.Step Int (Int × Int × Int)) :=
  if (Pu.W (s6 + s4)) ≤ (a1.length : Int) then
    (Pu.sub a1 s6 (Pu.W (s6 + s4))).bind fun x4 =>
    (Pu.forP (P.draw_Number.b2) 0 x4 0).bind fun y5 =>
    if y5 < a0 then
      some (Pu.Step.rt (y5, (Pu.W (s6 + s4)), 0))
    else
      some (Pu.Step.nx (Pu.W (s6 + s4)))
  else
    some (Pu.Step.br s6)
def P.draw_Number.b0 (a0 : Int) (s2 : Int) : Option (Pu.Step Int Unit) :=
  (Pu.shl .i64 1 s2).bind fun x2 =>
  if x2 < a0 then
    some (Pu.Step.nx (Pu.W (s2 + 1)))
  else
    some (Pu.Step.br s2)
def P.draw_Number (φ : Nat) (a0 : Int) (a1 : (List Bool)) : Option (Int × Int × Int) :=
  if ((decide (a0 < 1)) || (decide (1000000000 < a0))) then
    some (0, 0, 1)
  else
    (Pu.whl (P.draw_Number.b0 a0) φ 0).bind fun y1 =>
    y1.cs (fun s4 =>
      (Pu.whl (P.draw_Number.b1 a0 a1 s4) φ 0).bind fun y3 =>
      y3.cs (fun s8 =>
        some (0, 0, 5)) (fun r => some r)) (fun r => none)
/-! draw_Order -/
def P.draw_Order.b1 (φ : Nat) (a1 : (List Bool)) (s8 : ((List Int) × (List Int) × Int)) : Option (Pu.Step ((List Int) × (List Int) × Int) ((List Int) × Int × Int)) :=
  if 0 < (s8.1.length : Int) then
    (Pu.sub a1 s8.2.2 a1.length).bind fun x5 =>
    (P.draw_Number φ (s8.1.length : Int) x5).bind fun x6 =>
    if x6.2.2 ≠ 0 then
      some (Pu.Step.rt ([], 0, x6.2.2))
    else
      (Pu.ix s8.1 x6.1).bind fun x7 =>
      (Pu.app 8 s8.2.1 [x7]).bind fun x8 =>
      (Pu.sub s8.1 0 x6.1).bind fun x9 =>
      (Pu.sub s8.1 (Pu.W (x6.1 + 1)) s8.1.length).bind fun x10 =>
      (Pu.app 8 x9 x10).bind fun x11 =>
      some (Pu.Step.nx (x11, x8, (Pu.W (s8.2.2 + x6.2.1))))
  else
    some (Pu.Step.br (s8.1, s8.2.1, s8.2.2))
def P.draw_Order.b0 (i2 : Int) (x1 : Int) (s2 : (List Int)) : Option (List Int) :=
  (Pu.app 8 s2 [x1]).bind fun x3 =>
  some x3
def P.draw_Order (φ : Nat) (a0 : Int) (a1 : (List Bool)) : Option ((List Int) × Int × Int) :=
  if ((decide (a0 < 0)) || (decide (100 < a0))) then
    some ([], 0, 1)
  else
    (Pu.ranO a0).bind fun x2 =>
    (Pu.forP (P.draw_Order.b0) 0 x2 []).bind fun y1 =>
    (Pu.whl (P.draw_Order.b1 φ a1) φ (y1, [], 0)).bind fun y2 =>
    y2.cs (fun s10 =>
      some (s10.2.1, s10.2.2, 0)) (fun r => some r)
/-! slices_Clone_int_int -/
def P.slices_Clone_int_int (a0 : (List Int)) : Option (List Int) :=
  (Pu.app 8 [] a0).bind fun x1 =>
  some x1
/-! cmp_isNaN_int -/
def P.cmp_isNaN_int (a0 : Int) : Option Bool :=
  some (decide (a0 ≠ a0))
/-! cmp_Less_int -/
def P.cmp_Less_int (a0 : Int) (a1 : Int) : Option Bool :=
  (P.cmp_isNaN_int a0).bind fun x1 =>
  (if x1 then
      (P.cmp_isNaN_int a1).bind fun x2 =>
      some (!x2)
    else
      some false).bind fun y1 =>
  some (y1 || (decide (a0 < a1)))
/-! slices_insertionSortOrdered_int -/
def P.slices_insertionSortOrdered_int.b1 (a1 : Int) (s5 : ((List Int) × Int)) : Option (Pu.Step ((List Int) × Int) Unit) :=
  (if decide (a1 < s5.2) then
      (Pu.ix s5.1 s5.2).bind fun x3 =>
      (Pu.ix s5.1 (Pu.W (s5.2 - 1))).bind fun x4 =>
      (P.cmp_Less_int x3 x4).bind fun x5 =>
      some x5
    else
      some false).bind fun y5 =>
  if y5 then
    (Pu.ix s5.1 (Pu.W (s5.2 - 1))).bind fun x6 =>
    (Pu.ix s5.1 s5.2).bind fun x7 =>
    (Pu.ix s5.1 s5.2).bind fun x8 =>
    (Pu.ix (Pu.st s5.1 s5.2 x6) (Pu.W (s5.2 - 1))).bind fun x9 =>
    some (Pu.Step.nx ((Pu.st (Pu.st s5.1 s5.2 x6) (Pu.W (s5.2 - 1)) x7), (Pu.W (s5.2 - 1))))
  else
    some (Pu.Step.br (s5.1, s5.2))
def P.slices_insertionSortOrdered_int.b0 (φ : Nat) (a1 : Int) (a2 : Int) (s1 : ((List Int) × Int)) : Option (Pu.Step ((List Int) × Int) Unit) :=
  if s1.2 < a2 then
    (Pu.whl (P.slices_insertionSortOrdered_int.b1 a1) φ (s1.1, s1.2)).bind fun y3 =>
    y3.cs (fun s7 =>
      some (Pu.Step.nx (s7.1, (Pu.W (s1.2 + 1))))) (fun r => none)
  else
    some (Pu.Step.br (s1.1, s1.2))
def P.slices_insertionSortOrdered_int (φ : Nat) (a0 : (List Int)) (a1 : Int) (a2 : Int) : Option (List Int) :=
  (Pu.whl (P.slices_insertionSortOrdered_int.b0 φ a1 a2) φ (a0, (Pu.W (a1 + 1)))).bind fun y1 =>
  y1.cs (fun s3 =>
    some s3.1) (fun r => none)
/-! math_bits_Len32 -/
def P.math_bits_Len32 (a0 : Int) : Option Int :=
  (if 65536 ≤ a0 then
      (Pu.shr .u32 a0 16).bind fun x1 =>
      some (x1, 16)
    else
      some (a0, 0)).bind fun y1 =>
  (if 256 ≤ y1.1 then
      (Pu.shr .u32 y1.1 8).bind fun x2 =>
      some (x2, (Pu.W (y1.2 + 8)))
    else
      some (y1.1, y1.2)).bind fun y2 =>
  (Pu.sidx ⟨#[0, 1, 2, 2, 3, 3, 3, 3, 4, 4, 4, 4, 4, 4, 4, 4, 5, 5, 5, 5, 5, 5, 5, 5, 5, 5, 5, 5, 5, 5, 5, 5, 6, 6, 6, 6, 6, 6, 6, 6, 6, 6, 6, 6, 6, 6, 6, 6, 6, 6, 6, 6, 6, 6, 6, 6, 6, 6, 6, 6, 6, 6, 6, 6, 7, 7, 7, 7, 7, 7, 7, 7, 7, 7, 7, 7, 7, 7, 7, 7, 7, 7, 7, 7, 7, 7, 7, 7, 7, 7, 7, 7, 7, 7, 7, 7, 7, 7, 7, 7, 7, 7, 7, 7, 7, 7, 7, 7, 7, 7, 7, 7, 7, 7, 7, 7, 7, 7, 7, 7, 7, 7, 7, 7, 7, 7, 7, 7, 8, 8, 8, 8, 8, 8, 8, 8, 8, 8, 8, 8, 8, 8, 8, 8, 8, 8, 8, 8, 8, 8, 8, 8, 8, 8, 8, 8, 8, 8, 8, 8, 8, 8, 8, 8, 8, 8, 8, 8, 8, 8, 8, 8, 8, 8, 8, 8, 8, 8, 8, 8, 8, 8, 8, 8, 8, 8, 8, 8, 8, 8, 8, 8, 8, 8, 8, 8, 8, 8, 8, 8, 8, 8, 8, 8, 8, 8, 8, 8, 8, 8, 8, 8, 8, 8, 8, 8, 8, 8, 8, 8, 8, 8, 8, 8, 8, 8, 8, 8, 8, 8, 8, 8, 8, 8, 8, 8, 8, 8, 8, 8, 8, 8, 8, 8, 8, 8, 8, 8, 8, 8, 8, 8, 8, 8, 8, 8]⟩ (IntKind.u8.wrap y2.1)).bind fun x3 =>
  some (Pu.W (y2.2 + (Pu.W x3)))
/-! math_bits_Len64 -/
def P.math_bits_Len64 (a0 : Int) : Option Int :=
  (if 4294967296 ≤ a0 then
      (Pu.shr .u64 a0 32).bind fun x1 =>
      some (x1, 32)
    else
      some (a0, 0)).bind fun y1 =>
  (if 65536 ≤ y1.1 then
      (Pu.shr .u64 y1.1 16).bind fun x2 =>
      some (x2, (Pu.W (y1.2 + 16)))
    else
      some (y1.1, y1.2)).bind fun y2 =>
  (if 256 ≤ y2.1 then
      (Pu.shr .u64 y2.1 8).bind fun x3 =>
      some (x3, (Pu.W (y2.2 + 8)))
    else
      some (y2.1, y2.2)).bind fun y3 =>
  (Pu.sidx ⟨#[0, 1, 2, 2, 3, 3, 3, 3, 4, 4, 4, 4, 4, 4, 4, 4, 5, 5, 5, 5, 5, 5, 5, 5, 5, 5, 5, 5, 5, 5, 5, 5, 6, 6, 6, 6, 6, 6, 6, 6, 6, 6, 6, 6, 6, 6, 6, 6, 6, 6, 6, 6, 6, 6, 6, 6, 6, 6, 6, 6, 6, 6, 6, 6, 7, 7, 7, 7, 7, 7, 7, 7, 7, 7, 7, 7, 7, 7, 7, 7, 7, 7, 7, 7, 7, 7, 7, 7, 7, 7, 7, 7, 7, 7, 7, 7, 7, 7, 7, 7, 7, 7, 7, 7, 7, 7, 7, 7, 7, 7, 7, 7, 7, 7, 7, 7, 7, 7, 7, 7, 7, 7, 7, 7, 7, 7, 7, 7, 8, 8, 8, 8, 8, 8, 8, 8, 8, 8, 8, 8, 8, 8, 8, 8, 8, 8, 8, 8, 8, 8, 8, 8, 8, 8, 8, 8, 8, 8, 8, 8, 8, 8, 8, 8, 8, 8, 8, 8, 8, 8, 8, 8, 8, 8, 8, 8, 8, 8, 8, 8, 8, 8, 8, 8, 8, 8, 8, 8, 8, 8, 8, 8, 8, 8, 8, 8, 8, 8, 8, 8, 8, 8, 8, 8, 8, 8, 8, 8, 8, 8, 8, 8, 8, 8, 8, 8, 8, 8, 8, 8, 8, 8, 8, 8, 8, 8, 8, 8, 8, 8, 8, 8, 8, 8, 8, 8, 8, 8, 8, 8, 8, 8, 8, 8, 8, 8, 8, 8, 8, 8, 8, 8, 8, 8, 8, 8]⟩ (IntKind.u8.wrap y3.1)).bind fun x4 =>
  some (Pu.W (y3.2 + (Pu.W x4)))
/-! math_bits_Len -/
def P.math_bits_Len (a0 : Int) : Option Int :=
  (P.math_bits_Len64 a0).bind fun x1 =>
  some x1
/-! slices_nextPowerOfTwo -/
def P.slices_nextPowerOfTwo (a0 : Int) : Option Int :=
  (P.math_bits_Len (IntKind.u64.wrap a0)).bind fun x1 =>
  (Pu.shl .u64 1 x1).bind fun x2 =>
  some x2
/-! slices_xorshift_Next -/
def P.slices_xorshift_Next (a0 : Int) : Option (Int × Int) :=
  (Pu.shl .u64 a0 13).bind fun x1 =>
  (Pu.shr .u64 (Pu.bxor .u64 a0 x1) 7).bind fun x2 =>
  (Pu.shl .u64 (Pu.bxor .u64 (Pu.bxor .u64 a0 x1) x2) 17).bind fun x3 =>
  some ((Pu.bxor .u64 (Pu.bxor .u64 (Pu.bxor .u64 a0 x1) x2) x3), (Pu.bxor .u64 (Pu.bxor .u64 (Pu.bxor .u64 a0 x1) x2) x3))
/-! slices_order2Ordered_int -/
def P.slices_order2Ordered_int (a0 : (List Int)) (a1 : Int) (a2 : Int) (a3 : Int) : Option (Int × Int × Int) :=
  (Pu.ix a0 a2).bind fun x1 =>
  (Pu.ix a0 a1).bind fun x2 =>
  (P.cmp_Less_int x1 x2).bind fun x3 =>
  if x3 then
    some ((Pu.W (a3 + 1)), a2, a1)
  else
    some (a3, a1, a2)
/-! slices_medianOrdered_int -/
def P.slices_medianOrdered_int (a0 : (List Int)) (a1 : Int) (a2 : Int) (a3 : Int) (a4 : Int) : Option (Int × Int) :=
  (P.slices_order2Ordered_int a0 a1 a2 a4).bind fun x1 =>
  (P.slices_order2Ordered_int a0 x1.2.2 a3 x1.1).bind fun x2 =>
  (P.slices_order2Ordered_int a0 x1.2.1 x2.2.1 x2.1).bind fun x3 =>
  some (x3.1, x3.2.2)
/-! slices_medianAdjacentOrdered_int -/
def P.slices_medianAdjacentOrdered_int (a0 : (List Int)) (a1 : Int) (a2 : Int) : Option (Int × Int) :=
  (P.slices_medianOrdered_int a0 (Pu.W (a1 - 1)) a1 (Pu.W (a1 + 1)) a2).bind fun x1 =>
  some (x1.1, x1.2)
/-! slices_choosePivotOrdered_int -/
def P.slices_choosePivotOrdered_int (a0 : (List Int)) (a1 : Int) (a2 : Int) : Option (Int × Int) :=
  (Pu.quo .i64 (Pu.W (a2 - a1)) 4).bind fun x1 =>
  (Pu.quo .i64 (Pu.W (a2 - a1)) 4).bind fun x2 =>
  (Pu.quo .i64 (Pu.W (a2 - a1)) 4).bind fun x3 =>
  (if 8 ≤ (Pu.W (a2 - a1)) then
      (if 50 ≤ (Pu.W (a2 - a1)) then
          (P.slices_medianAdjacentOrdered_int a0 (Pu.W (a1 + (Pu.W (x1 * 1)))) 0).bind fun x4 =>
          (P.slices_medianAdjacentOrdered_int a0 (Pu.W (a1 + (Pu.W (x2 * 2)))) x4.1).bind fun x5 =>
          (P.slices_medianAdjacentOrdered_int a0 (Pu.W (a1 + (Pu.W (x3 * 3)))) x5.1).bind fun x6 =>
          some (x6.1, x4.2, x5.2, x6.2)
        else
          some (0, (Pu.W (a1 + (Pu.W (x1 * 1)))), (Pu.W (a1 + (Pu.W (x2 * 2)))), (Pu.W (a1 + (Pu.W (x3 * 3)))))).bind fun y2 =>
      (P.slices_medianOrdered_int a0 y2.2.1 y2.2.2.1 y2.2.2.2 y2.1).bind fun x7 =>
      some (x7.1, x7.2)
    else
      some (0, (Pu.W (a1 + (Pu.W (x2 * 2)))))).bind fun y1 =>
  if y1.1 = 0 then
    some (y1.2, 1)
  else
    if y1.1 = 12 then
      some (y1.2, 2)
    else
      some (y1.2, 0)
/-! slices_pdqsortOrdered_int -/
def P.slices_pdqsortOrdered_int.b0 (φ : Nat) (a0 : (List Int)) (a1 : Int) (a2 : Int) (s1 : Unit) : Option (Pu.Step Unit (List Int)) :=
  if (Pu.W (a2 - a1)) ≤ 12 then
    (P.slices_insertionSortOrdered_int φ a0 a1 a2).bind fun x2 =>
    some (Pu.Step.rt x2)
  else
    none
def P.slices_pdqsortOrdered_int (φ : Nat) (a0 : (List Int)) (a1 : Int) (a2 : Int) (a3 : Int) : Option (List Int) :=
  (Pu.whl (P.slices_pdqsortOrdered_int.b0 φ a0 a1 a2) φ ()).bind fun y1 =>
  y1.cs (fun s3 =>
    some a0) (fun r => some r)
/-! slices_Sort_int_int -/
def P.slices_Sort_int_int (φ : Nat) (a0 : (List Int)) : Option (List Int) :=
  (P.math_bits_Len (IntKind.u64.wrap (a0.length : Int))).bind fun x1 =>
  (P.slices_pdqsortOrdered_int φ a0 0 (a0.length : Int) x1).bind fun x2 =>
  some x2
/-! parlkeep5_DrawEach -/
def P.parlkeep5_DrawEach.b1 (x1 : Int) (x8 : (List Int)) (i13 : Int) (x9 : Int) (s23 : Int) : Option (Pu.Step Int (Pu.Step (List (Int × Int)) Bool)) :=
  (Pu.ix x8 (i13 : Int)).bind fun x10 =>
  if x10 ≠ (i13 : Int) then
    some (Pu.Step.rt (Pu.Step.rt false))
  else
    some (Pu.Step.nx (Pu.W ((Pu.W (s23 * x1)) + x9)))
def P.parlkeep5_DrawEach.b0 (φ : Nat) (x1 : Int) (i7 : Int) (x5 : (List Bool)) (s12 : (List (Int × Int))) : Option (Pu.Step (List (Int × Int)) Bool) :=
  (P.draw_Order φ x1 x5).bind fun x6 =>
  if x6.2.2 ≠ 0 then
    some (Pu.Step.nx s12)
  else
    (P.slices_Clone_int_int x6.1).bind fun x7 =>
    (P.slices_Sort_int_int φ x7).bind fun x8 =>
    (Pu.forL (P.parlkeep5_DrawEach.b1 x1 x8) 0 x6.1 0).bind fun y3 =>
    y3.cs (fun s25 =>
      if (x6.1.length : Int) ≠ x1 then
        some (Pu.Step.rt false)
      else
        some (Pu.Step.nx (Pu.mput s25 (Pu.W (((Pu.mget s25 s12).getD 0) + 1)) s12))) (fun r => some r)
def P.parlkeep5_DrawEach (φ : Nat) (a0 : Int) (a1 : Int) : Option Bool :=
  (P.parlkeep5_below a0 4).bind fun x1 =>
  (P.parlkeep5_below a1 9).bind fun x2 =>
  (P.draw_Order φ 2 [false]).bind fun x3 =>
  if ((decide (x3.2.2 ≠ 0)) || (decide ((x3.1.length : Int) ≠ 2))) then
    some false
  else
    (P.parlkeep5_coins x2).bind fun x4 =>
    (Pu.forL (P.parlkeep5_DrawEach.b0 φ x1) 0 x4 []).bind fun y1 =>
    y1.cs (fun s14 =>
      if (s14.length : Int) = 0 then
        some true
      else
        (Pu.msame s14).bind fun x11 =>
        (Pu.rounds (fun (v : Int) (s : (Int × Int)) => some ((Pu.imin s.1 v), (Pu.imax s.2 v))) x11.2 x11.1 (1099511627776, 0)).bind fun x12 =>
        (if decide (x12.1 = x12.2) then
            (Pu.ix [1, 1, 2, 6] x1).bind fun x13 =>
            some (decide ((s14.length : Int) = x13))
          else
            some false).bind fun y5 =>
        some y5) (fun r => some r)
end Go.Proofs.Ytbehlbabgomhfaa
