/- Plain functions, printed by wip/tools/lift.py. -/
import Derived.Test.YtcdhhelgoppleaaTy
namespace Go.Proofs.Ytcdhhelgoppleaa
open Go Go.Ab
/-! parlmake_Below -/
def P.parlmake_Below (a0 : Int) (a1 : Int) : Option Int :=
  (Pu.rem a0 a1).bind fun x1 =>
  (if x1 < 0 then
      some (Pu.W (x1 + a1))
    else
      some x1).bind fun y1 =>
  some y1
/-! parlmake_stream_next -/
def P.parlmake_stream_next (a0 : Ty.parlmake_stream) (a1 : Int) : Option (Ty.parlmake_stream × Int) :=
  if (a0.l.length : Int) = 0 then
    some (a0, 0)
  else
    (Pu.ix a0.l 0).bind fun x1 =>
    (Pu.sub a0.l 1 a0.l.length).bind fun x2 =>
    (P.parlmake_Below x1 a1).bind fun x3 =>
    some ((Ty.parlmake_stream.mk x2), x3)
/-! parlmake_Dfa -/
def P.parlmake_Dfa.b1 (x1 : (Ty.parlmake_stream × Int)) (i8 : Int) (x8 : Int) (s24 : ((List Int) × (List Int))) : Option ((List Int) × (List Int)) :=
  (P.parlmake_stream_next (Ty.parlmake_stream.mk s24.1) (Pu.W ((Pu.W (1 + x1.2)) + 1))).bind fun x10 =>
  (Pu.app 8 s24.2 [(Pu.W (x10.2 - 1))]).bind fun x11 =>
  some (x10.1.l, x11)
def P.parlmake_Dfa.b0 (x1 : (Ty.parlmake_stream × Int)) (x2 : (Ty.parlmake_stream × Int)) (i5 : Int) (x4 : Int) (s14 : ((List Int) × (List Int) × (List (List Int)))) : Option ((List Int) × (List Int) × (List (List Int))) :=
  (P.parlmake_stream_next (Ty.parlmake_stream.mk s14.1) 3).bind fun x6 =>
  (Pu.app 8 s14.2.1 [(Pu.W (x6.2 - 1))]).bind fun x7 =>
  (Pu.ranO (Pu.W (1 + x2.2))).bind fun x9 =>
  (Pu.forP (P.parlmake_Dfa.b1 x1) 0 x9 (x6.1.l, [])).bind fun y2 =>
  (Pu.app 24 s14.2.2 [y2.2]).bind fun x12 =>
  some (y2.1, x7, x12)
def P.parlmake_Dfa (a0 : (List Int)) : Option Ty.api_Dfa :=
  (P.parlmake_stream_next (Ty.parlmake_stream.mk a0) 6).bind fun x1 =>
  (P.parlmake_stream_next x1.1 3).bind fun x2 =>
  (P.parlmake_stream_next x2.1 (Pu.W (1 + x1.2))).bind fun x3 =>
  (Pu.ranO (Pu.W (1 + x1.2))).bind fun x5 =>
  (Pu.forP (P.parlmake_Dfa.b0 x1 x2) 0 x5 (x3.1.l, [], [])).bind fun y1 =>
  some (Ty.api_Dfa.mk x3.2 y1.2.1 y1.2.2)
/-! guess_Rules -/
def P.guess_Rules.b5 (x12 : Ty.api_Sym) (x7 : Int) (i10 : Int) (x13 : Ty.api_Sym) (s42 : (List Ty.api_Rule)) : Option (List Ty.api_Rule) :=
  (Pu.app 32 s42 [(Ty.api_Rule.mk x7 [x12, x13])]).bind fun x14 =>
  some x14
def P.guess_Rules.b4 (x7 : Int) (y2 : (List Ty.api_Sym)) (i9 : Int) (x12 : Ty.api_Sym) (s36 : (List Ty.api_Rule)) : Option (List Ty.api_Rule) :=
  (Pu.forP (P.guess_Rules.b5 x12 x7) 0 y2 s36).bind fun y6 =>
  some y6
def P.guess_Rules.b3 (x7 : Int) (i8 : Int) (x10 : Ty.api_Sym) (s24 : (List Ty.api_Rule)) : Option (List Ty.api_Rule) :=
  (Pu.app 32 s24 [(Ty.api_Rule.mk x7 [x10])]).bind fun x11 =>
  some x11
def P.guess_Rules.b2 (y2 : (List Ty.api_Sym)) (i6 : Int) (x7 : Int) (s18 : (List Ty.api_Rule)) : Option (List Ty.api_Rule) :=
  (Pu.app 32 s18 [(Ty.api_Rule.mk x7 [])]).bind fun x9 =>
  (Pu.forP (P.guess_Rules.b3 x7) 0 y2 x9).bind fun y4 =>
  (Pu.forP (P.guess_Rules.b4 x7 y2) 0 y2 y4).bind fun y5 =>
  some y5
def P.guess_Rules.b1 (i5 : Int) (x4 : Int) (s11 : (List Ty.api_Sym)) : Option (List Ty.api_Sym) :=
  (Pu.app 16 s11 [(Ty.api_Sym.mk false x4)]).bind fun x6 =>
  some x6
def P.guess_Rules.b0 (i4 : Int) (x1 : Int) (s4 : (List Ty.api_Sym)) : Option (List Ty.api_Sym) :=
  (Pu.app 16 s4 [(Ty.api_Sym.mk true x1)]).bind fun x3 =>
  some x3
def P.guess_Rules (a0 : Int) (a1 : Int) : Option ((List Ty.api_Rule) × Int) :=
  if ((((decide (a0 < 1)) || (decide (2 < a0))) || (decide (a1 < 1))) || (decide (2 < a1))) then
    some ([], 1)
  else
    (Pu.ranO a0).bind fun x2 =>
    (Pu.forP (P.guess_Rules.b0) 0 x2 []).bind fun y1 =>
    (Pu.ranO a1).bind fun x5 =>
    (Pu.forP (P.guess_Rules.b1) 0 x5 y1).bind fun y2 =>
    (Pu.ranO a1).bind fun x8 =>
    (Pu.forP (P.guess_Rules.b2 y2) 0 x8 []).bind fun y3 =>
    some (y3, 0)
/-! slices_Grow_int_int__nil -/
def P.slices_Grow_int_int__nil (a1 : Int) : Option (List (List Int)) :=
  if a1 < 0 then
    none
  else
    (if 0 < (Pu.W (a1 - (Pu.W (0 - 0)))) then
        (Pu.mkz 24 (Pu.W (a1 - (Pu.W (0 - 0)))) []).bind fun x1 =>
        (Pu.sub x1 0 0).bind fun x2 =>
        some x2
      else
        some []).bind fun y1 =>
    some y1
/-! slices_Concat_int_int -/
def P.slices_Concat_int_int.b1 (i4 : Int) (x3 : (List (List Int))) (s7 : (List (List Int))) : Option (List (List Int)) :=
  (Pu.app 24 s7 x3).bind fun x4 =>
  some x4
def P.slices_Concat_int_int.b0 (i1 : Int) (x1 : (List (List Int))) (s1 : Int) : Option Int :=
  if (Pu.W (s1 + (x1.length : Int))) < 0 then
    none
  else
    some (Pu.W (s1 + (x1.length : Int)))
def P.slices_Concat_int_int (a0 : (List (List (List Int)))) : Option (List (List Int)) :=
  (Pu.forP (P.slices_Concat_int_int.b0) 0 a0 0).bind fun y1 =>
  (P.slices_Grow_int_int__nil y1).bind fun x2 =>
  (Pu.forP (P.slices_Concat_int_int.b1) 0 a0 x2).bind fun y2 =>
  some y2
/-! slices_Equal_int_int -/
def P.slices_Equal_int_int.b0 (a0 : (List Int)) (a1 : (List Int)) (i1 : Int) (x1 : Int) (s1 : Unit) : Option (Pu.Step Unit Bool) :=
  (Pu.ix a0 x1).bind fun x3 =>
  (Pu.ix a1 x1).bind fun x4 =>
  if x3 ≠ x4 then
    some (Pu.Step.rt false)
  else
    some (Pu.Step.nx ())
def P.slices_Equal_int_int (a0 : (List Int)) (a1 : (List Int)) : Option Bool :=
  if (a0.length : Int) ≠ (a1.length : Int) then
    some false
  else
    (Pu.ranO (a0.length : Int)).bind fun x2 =>
    (Pu.forL (P.slices_Equal_int_int.b0 a0 a1) 0 x2 ()).bind fun y1 =>
    y1.cs (fun s3 =>
      some true) (fun r => some r)
/-! guess_Check_1 -/
def P.guess_Check_1 (a0 : (List Int)) (a1 : (List Int)) : Option Bool :=
  (P.slices_Equal_int_int a0 a1).bind fun x1 =>
  some x1
/-! slices_IndexFunc_int_int_34__guess_Check_1 -/
def P.slices_IndexFunc_int_int_34__guess_Check_1.b0 (a0 : (List (List Int))) (a1c0 : (List Int)) (i1 : Int) (x1 : Int) (s1 : Unit) : Option (Pu.Step Unit Int) :=
  (Pu.ix a0 x1).bind fun x3 =>
  (P.guess_Check_1 x3 a1c0).bind fun x4 =>
  if x4 then
    some (Pu.Step.rt x1)
  else
    some (Pu.Step.nx ())
def P.slices_IndexFunc_int_int_34__guess_Check_1 (a0 : (List (List Int))) (a1c0 : (List Int)) : Option Int :=
  (Pu.ranO (a0.length : Int)).bind fun x2 =>
  (Pu.forL (P.slices_IndexFunc_int_int_34__guess_Check_1.b0 a0 a1c0) 0 x2 ()).bind fun y1 =>
  y1.cs (fun s3 =>
    some (-1)) (fun r => some r)
/-! slices_ContainsFunc_int_int_26__guess_Check_1 -/
def P.slices_ContainsFunc_int_int_26__guess_Check_1 (a0 : (List (List Int))) (a1c0 : (List Int)) : Option Bool :=
  (P.slices_IndexFunc_int_int_34__guess_Check_1 a0 a1c0).bind fun x1 =>
  some (decide (0 ≤ x1))
/-! guess_Check -/
def P.guess_Check.b2 (a1 : (List (List Int))) (i9 : Int) (x4 : (List Int)) (s18 : Unit) : Option (Pu.Step Unit Int) :=
  (P.slices_ContainsFunc_int_int_26__guess_Check_1 a1 x4).bind fun x5 =>
  if x5 then
    some (Pu.Step.rt 8)
  else
    some (Pu.Step.nx ())
def P.guess_Check.b1 (a0 : Int) (i5 : Int) (x3 : Int) (s11 : Unit) : Option (Pu.Step Unit (Pu.Step Unit Int)) :=
  if ((decide (x3 < 0)) || (decide (a0 ≤ x3))) then
    some (Pu.Step.rt (Pu.Step.rt 1))
  else
    some (Pu.Step.nx ())
def P.guess_Check.b0 (a0 : Int) (i3 : Int) (x2 : (List Int)) (s6 : Unit) : Option (Pu.Step Unit Int) :=
  if 5 < (x2.length : Int) then
    some (Pu.Step.rt 2)
  else
    (Pu.forL (P.guess_Check.b1 a0) 0 x2 ()).bind fun y3 =>
    y3.cs (fun s13 =>
      some (Pu.Step.nx ())) (fun r => some r)
def P.guess_Check (a0 : Int) (a1 : (List (List Int))) (a2 : (List (List Int))) : Option Int :=
  if ((decide (6 < (a1.length : Int))) || (decide (6 < (a2.length : Int)))) then
    some 2
  else
    (P.slices_Concat_int_int [a1, a2]).bind fun x1 =>
    (Pu.forL (P.guess_Check.b0 a0) 0 x1 ()).bind fun y1 =>
    y1.cs (fun s8 =>
      (Pu.forL (P.guess_Check.b2 a1) 0 a2 ()).bind fun y5 =>
      y5.cs (fun s20 =>
        some 0) (fun r => some r)) (fun r => some r)
/-! guess_first -/
def P.guess_first.b0 (i1 : Int) (x2 : Int) (s2 : (List Int)) : Option (List Int) :=
  (Pu.app 8 s2 [x2]).bind fun x4 =>
  some x4
def P.guess_first (a0 : Int) : Option (List Int) :=
  (Pu.mk 8 0 a0 0).bind fun x1 =>
  (Pu.ranO a0).bind fun x3 =>
  (Pu.forP (P.guess_first.b0) 0 x3 x1).bind fun y1 =>
  some y1
/-! slices_Clone_int_int -/
def P.slices_Clone_int_int (a0 : (List Int)) : Option (List Int) :=
  (Pu.app 8 [] a0).bind fun x1 =>
  some x1
/-! guess_next -/
def P.guess_next.b1 (s8 : ((List Int) × Int)) : Option (Pu.Step ((List Int) × Int) Unit) :=
  if s8.2 < (s8.1.length : Int) then
    (Pu.ix s8.1 (Pu.W (s8.2 - 1))).bind fun x7 =>
    (Pu.ix s8.1 s8.2).bind fun x8 =>
    some (Pu.Step.nx ((Pu.st s8.1 s8.2 (Pu.W (x7 + 1))), (Pu.W (s8.2 + 1))))
  else
    some (Pu.Step.br (s8.1, s8.2))
def P.guess_next.b0 (φ : Nat) (a1 : Int) (s3 : ((List Int) × Int)) : Option (Pu.Step ((List Int) × Int) (List Int)) :=
  if 0 ≤ s3.2 then
    (Pu.ix s3.1 s3.2).bind fun x3 =>
    (Pu.ix s3.1 s3.2).bind fun x4 =>
    (Pu.ix (Pu.st s3.1 s3.2 (Pu.W (x3 + 1))) s3.2).bind fun x5 =>
    if (Pu.W ((Pu.W ((Pu.W (x5 + ((Pu.st s3.1 s3.2 (Pu.W (x3 + 1))).length : Int))) - 1)) - s3.2)) < a1 then
      (Pu.whl (P.guess_next.b1) φ ((Pu.st s3.1 s3.2 (Pu.W (x3 + 1))), (Pu.W (s3.2 + 1)))).bind fun y3 =>
      y3.cs (fun s10 =>
        if s10.1 = [] then none else some (Pu.Step.rt s10.1)) (fun r => none)
    else
      some (Pu.Step.nx ((Pu.st s3.1 s3.2 (Pu.W (x3 + 1))), (Pu.W (s3.2 - 1))))
  else
    some (Pu.Step.br (s3.1, s3.2))
def P.guess_next (φ : Nat) (a0 : (List Int)) (a1 : Int) : Option (List Int) :=
  (P.slices_Clone_int_int a0).bind fun x1 =>
  (Pu.whl (P.guess_next.b0 φ a1) φ (x1, (Pu.W ((x1.length : Int) - 1)))).bind fun y1 =>
  y1.cs (fun s5 =>
    some []) (fun r => some r)
/-! slices_Clone_api_Sym_api_Sym -/
def P.slices_Clone_api_Sym_api_Sym (a0 : (List Ty.api_Sym)) : Option (List Ty.api_Sym) :=
  (Pu.app 16 [] a0).bind fun x1 =>
  some x1
/-! guess_accepts_1 -/
def P.guess_accepts_1 (a0 : Ty.api_Sym) (a1 : Int) (a2 : (List Int)) (a3 : (List Int)) : Option Int :=
  if !a0.Term then
    (Pu.ixa 2 a0.N).bind fun x1 =>
    (Pu.ixa 6 a1).bind fun x2 =>
    (Pu.ax a2 ((0 + x1 * 6) + x2 * 1)).bind fun x3 =>
    some x3
  else
    (if decide (a1 < (a3.length : Int)) then
        (Pu.ix a3 a1).bind fun x4 =>
        some (decide (x4 = a0.N))
      else
        some false).bind fun y1 =>
    if y1 then
      (Pu.shl .u64 1 (Pu.W (a1 + 1))).bind fun x5 =>
      some x5
    else
      some 0
/-! guess_accepts -/
def P.guess_accepts.b4 (a1 : (List Int)) (s13 : ((List Int) × Bool)) (s16 : Int) (x6 : Ty.api_Sym) (s21 : (Int × Int)) : Option (Pu.Step (Int × Int) Unit) :=
  if s21.2 ≤ (a1.length : Int) then
    (Pu.shr .u64 s16 s21.2).bind fun x8 =>
    (if (Pu.band .u64 x8 1) = 1 then
        (P.guess_accepts_1 x6 s21.2 s13.1 a1).bind fun x9 =>
        some (Pu.bor .u64 s21.1 x9)
      else
        some s21.1).bind fun y8 =>
    some (Pu.Step.nx (y8, (Pu.W (s21.2 + 1))))
  else
    some (Pu.Step.br (s21.1, s21.2))
def P.guess_accepts.b3 (φ : Nat) (a1 : (List Int)) (s13 : ((List Int) × Bool)) (x3 : Int) (i5 : Int) (x6 : Ty.api_Sym) (s16 : Int) : Option Int :=
  (Pu.whl (P.guess_accepts.b4 a1 s13 s16 x6) φ (0, x3)).bind fun y6 =>
  y6.cs (fun s23 =>
    some s23.1) (fun r => none)
def P.guess_accepts.b2 (φ : Nat) (a1 : (List Int)) (x2 : Ty.api_Rule) (i3 : Int) (x3 : Int) (s13 : ((List Int) × Bool)) : Option ((List Int) × Bool) :=
  (Pu.shl .u64 1 x3).bind fun x5 =>
  (Pu.forP (P.guess_accepts.b3 φ a1 s13 x3) 0 x2.Right x5).bind fun y5 =>
  (Pu.ixa 2 x2.Left).bind fun x10 =>
  (Pu.ixa 6 x3).bind fun x11 =>
  (Pu.ax s13.1 ((0 + x10 * 6) + x11 * 1)).bind fun x12 =>
  (if (Pu.bandn .u64 y5 x12) ≠ 0 then
      (Pu.ixa 2 x2.Left).bind fun x13 =>
      (Pu.ixa 6 x3).bind fun x14 =>
      (Pu.ax s13.1 ((0 + x13 * 6) + x14 * 1)).bind fun x15 =>
      (Pu.ixa 2 x2.Left).bind fun x16 =>
      (Pu.ixa 6 x3).bind fun x17 =>
      (Pu.as s13.1 ((0 + x16 * 6) + x17 * 1) (Pu.bor .u64 x15 y5)).bind fun x18 =>
      some (x18, true)
    else
      some (s13.1, s13.2)).bind fun y9 =>
  some (y9.1, y9.2)
def P.guess_accepts.b1 (φ : Nat) (a1 : (List Int)) (i2 : Int) (x2 : Ty.api_Rule) (s8 : ((List Int) × Bool)) : Option ((List Int) × Bool) :=
  (Pu.ranO (Pu.W ((a1.length : Int) + 1))).bind fun x4 =>
  (Pu.forP (P.guess_accepts.b2 φ a1 x2) 0 x4 (s8.1, s8.2)).bind fun y4 =>
  some (y4.1, y4.2)
def P.guess_accepts.b0 (φ : Nat) (a0 : Ty.api_Grammar) (a1 : (List Int)) (s4 : ((List Int) × Bool)) : Option (Pu.Step ((List Int) × Bool) Unit) :=
  if s4.2 then
    (Pu.forP (P.guess_accepts.b1 φ a1) 0 a0.Rules (s4.1, false)).bind fun y3 =>
    some (Pu.Step.nx (y3.1, y3.2))
  else
    some (Pu.Step.br (s4.1, s4.2))
def P.guess_accepts (φ : Nat) (a0 : Ty.api_Grammar) (a1 : (List Int)) : Option Bool :=
  (Pu.whl (P.guess_accepts.b0 φ a0 a1) φ ((List.replicate 12 0), true)).bind fun y1 =>
  y1.cs (fun s6 =>
    (Pu.ixa 2 0).bind fun x19 =>
    (Pu.ixa 6 0).bind fun x20 =>
    (Pu.ax s6.1 ((0 + x19 * 6) + x20 * 1)).bind fun x21 =>
    (Pu.shr .u64 x21 (a1.length : Int)).bind fun x22 =>
    some (decide ((Pu.band .u64 x22 1) = 1))) (fun r => none)
/-! guess_agrees -/
def P.guess_agrees.b1 (φ : Nat) (a0 : Ty.api_Grammar) (i4 : Int) (x3 : (List Int)) (s9 : Unit) : Option (Pu.Step Unit Bool) :=
  (P.guess_accepts φ a0 x3).bind fun x4 =>
  if x4 then
    some (Pu.Step.rt false)
  else
    some (Pu.Step.nx ())
def P.guess_agrees.b0 (φ : Nat) (a0 : Ty.api_Grammar) (i1 : Int) (x1 : (List Int)) (s2 : Unit) : Option (Pu.Step Unit Bool) :=
  (P.guess_accepts φ a0 x1).bind fun x2 =>
  if !x2 then
    some (Pu.Step.rt false)
  else
    some (Pu.Step.nx ())
def P.guess_agrees (φ : Nat) (a0 : Ty.api_Grammar) (a1 : (List (List Int))) (a2 : (List (List Int))) : Option Bool :=
  (Pu.forL (P.guess_agrees.b0 φ a0) 0 a1 ()).bind fun y1 =>
  y1.cs (fun s4 =>
    (Pu.forL (P.guess_agrees.b1 φ a0) 0 a2 ()).bind fun y3 =>
    y3.cs (fun s11 =>
      some true) (fun r => some r)) (fun r => some r)
/-! guess_Of -/
def P.guess_Of.b2 (x1 : ((List Ty.api_Rule) × Int)) (i9 : Int) (x7 : Int) (s21 : (List Ty.api_Rule)) : Option (List Ty.api_Rule) :=
  (Pu.ix x1.1 x7).bind fun x8 =>
  (Pu.ix x1.1 x7).bind fun x9 =>
  (P.slices_Clone_api_Sym_api_Sym x9.Right).bind fun x10 =>
  (Pu.app 32 s21 [(Ty.api_Rule.mk x8.Left x10)]).bind fun x11 =>
  some x11
def P.guess_Of.b1 (φ : Nat) (a0 : Int) (a1 : Int) (a2 : (List (List Int))) (a3 : (List (List Int))) (x1 : ((List Ty.api_Rule) × Int)) (s15 : ((List Int) × Bool)) : Option (Pu.Step ((List Int) × Bool) (Pu.Step Unit (Ty.api_Grammar × Int))) :=
  if s15.2 then
    (Pu.forP (P.guess_Of.b2 x1) 0 s15.1 []).bind fun y5 =>
    (P.guess_agrees φ (Ty.api_Grammar.mk a0 a1 0 y5) a2 a3).bind fun x12 =>
    if x12 then
      some (Pu.Step.rt (Pu.Step.rt ((Ty.api_Grammar.mk a0 a1 0 y5), 0)))
    else
      (P.guess_next φ s15.1 (x1.1.length : Int)).bind fun x13 =>
      some (Pu.Step.nx (x13, decide (¬ x13 = [])))
  else
    some (Pu.Step.br s15)
def P.guess_Of.b0 (φ : Nat) (a0 : Int) (a1 : Int) (a2 : (List (List Int))) (a3 : (List (List Int))) (x1 : ((List Ty.api_Rule) × Int)) (i6 : Int) (x3 : Int) (s9 : Unit) : Option (Pu.Step Unit (Ty.api_Grammar × Int)) :=
  (P.guess_first x3).bind fun x5 =>
  (Pu.whl (P.guess_Of.b1 φ a0 a1 a2 a3 x1) φ (x5, true)).bind fun y3 =>
  y3.cs (fun s17 =>
    some (Pu.Step.nx ())) (fun r => some r)
def P.guess_Of (φ : Nat) (a0 : Int) (a1 : Int) (a2 : (List (List Int))) (a3 : (List (List Int))) : Option (Ty.api_Grammar × Int) :=
  (P.guess_Rules a0 a1).bind fun x1 =>
  if x1.2 ≠ 0 then
    some ((Ty.api_Grammar.mk 0 0 0 []), x1.2)
  else
    (P.guess_Check a0 a2 a3).bind fun x2 =>
    if x2 ≠ 0 then
      some ((Ty.api_Grammar.mk 0 0 0 []), x2)
    else
      (Pu.ranO 4).bind fun x4 =>
      (Pu.forL (P.guess_Of.b0 φ a0 a1 a2 a3 x1) 0 x4 ()).bind fun y1 =>
      y1.cs (fun s11 =>
        some ((Ty.api_Grammar.mk 0 0 0 []), 5)) (fun r => some r)
/-! parlkeep5_below -/
def P.parlkeep5_below (a0 : Int) (a1 : Int) : Option Int :=
  (P.parlmake_Below a0 a1).bind fun x1 =>
  some x1
/-! parlmake_Word -/
def P.parlmake_Word.b0 (a0 : Int) (a1 : Int) (i1 : Int) (x1 : Int) (s1 : (List Int)) : Option (Pu.Step (List Int) Unit) :=
  if (s1.length : Int) = a1 then
    some (Pu.Step.br s1)
  else
    (P.parlmake_Below x1 a0).bind fun x2 =>
    (Pu.app 8 s1 [x2]).bind fun x3 =>
    some (Pu.Step.nx x3)
def P.parlmake_Word (a0 : Int) (a1 : Int) (a2 : (List Int)) : Option (List Int) :=
  (Pu.forL (P.parlmake_Word.b0 a0 a1) 0 a2 []).bind fun y1 =>
  y1.cs (fun s3 =>
    some s3) (fun r => none)
/-! dfa_Check -/
def P.dfa_Check.b2 (a0 : Ty.api_Dfa) (i9 : Int) (x5 : Int) (s14 : Unit) : Option (Pu.Step Unit (Pu.Step Unit Int)) :=
  if ((decide (x5 < (-1))) || (decide ((a0.Next.length : Int) ≤ x5))) then
    some (Pu.Step.rt (Pu.Step.rt 1))
  else
    some (Pu.Step.nx ())
def P.dfa_Check.b1 (a0 : Ty.api_Dfa) (i7 : Int) (x3 : (List Int)) (s10 : Unit) : Option (Pu.Step Unit Int) :=
  (Pu.ix a0.Accept (i7 : Int)).bind fun x4 =>
  if x4 < (-1) then
    some (Pu.Step.rt 1)
  else
    (Pu.forL (P.dfa_Check.b2 a0) 0 x3 ()).bind fun y5 =>
    y5.cs (fun s16 =>
      some (Pu.Step.nx ())) (fun r => some r)
def P.dfa_Check.b0 (x1 : (List Int)) (i3 : Int) (x2 : (List Int)) (s3 : Unit) : Option (Pu.Step Unit Int) :=
  if ((decide ((x2.length : Int) ≠ (x1.length : Int))) || (decide ((x1.length : Int) = 0))) then
    some (Pu.Step.rt 3)
  else
    some (Pu.Step.nx ())
def P.dfa_Check (a0 : Ty.api_Dfa) : Option Int :=
  if 200 < (a0.Next.length : Int) then
    some 2
  else
    if ((decide ((a0.Next.length : Int) = 0)) || (decide ((a0.Accept.length : Int) ≠ (a0.Next.length : Int)))) then
      some 3
    else
      (Pu.ix a0.Next 0).bind fun x1 =>
      if 16 < (x1.length : Int) then
        some 2
      else
        (Pu.forL (P.dfa_Check.b0 x1) 0 a0.Next ()).bind fun y1 =>
        y1.cs (fun s5 =>
          if ((decide (a0.Start < 0)) || (decide ((a0.Next.length : Int) ≤ a0.Start))) then
            some 1
          else
            (Pu.forL (P.dfa_Check.b1 a0) 0 a0.Next ()).bind fun y3 =>
            y3.cs (fun s12 =>
              some 0) (fun r => some r)) (fun r => some r)
/-! dfa_Run -/
def P.dfa_Run.b1 (a0 : Ty.api_Dfa) (i7 : Int) (x4 : Int) (s10 : Int) : Option (Pu.Step Int (Int × Int)) :=
  (Pu.ix a0.Next s10).bind fun x5 =>
  (Pu.ix x5 x4).bind fun x6 =>
  if x6 < 0 then
    some (Pu.Step.rt ((-1), 0))
  else
    some (Pu.Step.nx x6)
def P.dfa_Run.b0 (a0 : Ty.api_Dfa) (i4 : Int) (x2 : Int) (s4 : Unit) : Option (Pu.Step Unit (Int × Int)) :=
  (if decide (x2 < 0) then
      some true
    else
      (Pu.ix a0.Next 0).bind fun x3 =>
      some (decide ((x3.length : Int) ≤ x2))).bind fun y3 =>
  if y3 then
    some (Pu.Step.rt (0, 1))
  else
    some (Pu.Step.nx ())
def P.dfa_Run (a0 : Ty.api_Dfa) (a1 : (List Int)) : Option (Int × Int) :=
  (P.dfa_Check a0).bind fun x1 =>
  if x1 ≠ 0 then
    some (0, x1)
  else
    if 4000 < (a1.length : Int) then
      some (0, 2)
    else
      (Pu.forL (P.dfa_Run.b0 a0) 0 a1 ()).bind fun y1 =>
      y1.cs (fun s6 =>
        (Pu.forL (P.dfa_Run.b1 a0) 0 a1 a0.Start).bind fun y4 =>
        y4.cs (fun s12 =>
          (Pu.ix a0.Accept s12).bind fun x7 =>
          some (x7, 0)) (fun r => some r)) (fun r => some r)
/-! parlkeep5_accepts -/
def P.parlkeep5_accepts (a0 : Ty.api_Dfa) (a1 : (List Int)) : Option Bool :=
  (P.dfa_Run a0 a1).bind fun x1 =>
  some ((decide (x1.2 = 0)) && (decide (0 ≤ x1.1)))
/-! parlkeep5_examples -/
def P.parlkeep5_examples.b0 (a0 : Ty.api_Dfa) (s2 : ((List Int) × (List (List Int)) × (List (List Int)))) : Option (Pu.Step ((List Int) × (List (List Int)) × (List (List Int))) Unit) :=
  if ((decide (0 < (s2.1.length : Int))) && (decide ((Pu.W ((s2.2.1.length : Int) + (s2.2.2.length : Int))) < 12))) then
    (Pu.ix s2.1 0).bind fun x2 =>
    (P.parlkeep5_below x2 5).bind fun x3 =>
    (Pu.sub s2.1 1 s2.1.length).bind fun x4 =>
    (Pu.ix a0.Next 0).bind fun x5 =>
    (P.parlmake_Word (x5.length : Int) x3 x4).bind fun x6 =>
    (Pu.sub x4 (Pu.imin (x4.length : Int) x3) x4.length).bind fun x7 =>
    (P.parlkeep5_accepts a0 x6).bind fun x8 =>
    (if x8 then
        (Pu.app 24 s2.2.1 [x6]).bind fun x9 =>
        some (x9, s2.2.2)
      else
        (Pu.app 24 s2.2.2 [x6]).bind fun x10 =>
        some (s2.2.1, x10)).bind fun y3 =>
    some (Pu.Step.nx (x7, y3.1, y3.2))
  else
    some (Pu.Step.br (s2.1, s2.2.1, s2.2.2))
def P.parlkeep5_examples (φ : Nat) (a0 : Ty.api_Dfa) (a1 : (List Int)) : Option ((List (List Int)) × (List (List Int))) :=
  (Pu.whl (P.parlkeep5_examples.b0 a0) φ (a1, [], [])).bind fun y1 =>
  y1.cs (fun s4 =>
    some (s4.2.1, s4.2.2)) (fun r => none)
/-! parlkeep5_fewer_1_1 -/
def P.parlkeep5_fewer_1_1 (a0 : Int) (a1 : Int) : Option Bool :=
  some (decide (a1 ≤ a0))
/-! slices_IndexFunc_int_int__parlkeep5_fewer_1_1 -/
def P.slices_IndexFunc_int_int__parlkeep5_fewer_1_1.b0 (a0 : (List Int)) (a1c0 : Int) (i1 : Int) (x1 : Int) (s1 : Unit) : Option (Pu.Step Unit Int) :=
  (Pu.ix a0 x1).bind fun x3 =>
  (P.parlkeep5_fewer_1_1 x3 a1c0).bind fun x4 =>
  if x4 then
    some (Pu.Step.rt x1)
  else
    some (Pu.Step.nx ())
def P.slices_IndexFunc_int_int__parlkeep5_fewer_1_1 (a0 : (List Int)) (a1c0 : Int) : Option Int :=
  (Pu.ranO (a0.length : Int)).bind fun x2 =>
  (Pu.forL (P.slices_IndexFunc_int_int__parlkeep5_fewer_1_1.b0 a0 a1c0) 0 x2 ()).bind fun y1 =>
  y1.cs (fun s3 =>
    some (-1)) (fun r => some r)
/-! slices_ContainsFunc_int_int__parlkeep5_fewer_1_1 -/
def P.slices_ContainsFunc_int_int__parlkeep5_fewer_1_1 (a0 : (List Int)) (a1c0 : Int) : Option Bool :=
  (P.slices_IndexFunc_int_int__parlkeep5_fewer_1_1 a0 a1c0).bind fun x1 =>
  some (decide (0 ≤ x1))
/-! parlkeep5_fewer_1 -/
def P.parlkeep5_fewer_1 (a0 : (List Int)) (a1 : Int) : Option Bool :=
  (P.slices_ContainsFunc_int_int__parlkeep5_fewer_1_1 a0 a1).bind fun x1 =>
  some x1
/-! slices_IndexFunc_int_int_34__parlkeep5_fewer_1 -/
def P.slices_IndexFunc_int_int_34__parlkeep5_fewer_1.b0 (a0 : (List (List Int))) (a1c0 : Int) (i1 : Int) (x1 : Int) (s1 : Unit) : Option (Pu.Step Unit Int) :=
  (Pu.ix a0 x1).bind fun x3 =>
  (P.parlkeep5_fewer_1 x3 a1c0).bind fun x4 =>
  if x4 then
    some (Pu.Step.rt x1)
  else
    some (Pu.Step.nx ())
def P.slices_IndexFunc_int_int_34__parlkeep5_fewer_1 (a0 : (List (List Int))) (a1c0 : Int) : Option Int :=
  (Pu.ranO (a0.length : Int)).bind fun x2 =>
  (Pu.forL (P.slices_IndexFunc_int_int_34__parlkeep5_fewer_1.b0 a0 a1c0) 0 x2 ()).bind fun y1 =>
  y1.cs (fun s3 =>
    some (-1)) (fun r => some r)
/-! slices_DeleteFunc_int_int__parlkeep5_fewer_1 -/
def P.slices_DeleteFunc_int_int__parlkeep5_fewer_1.b0 (a1c0 : Int) (s3 : ((List (List Int)) × Int × Int)) : Option (Pu.Step ((List (List Int)) × Int × Int) Unit) :=
  if s3.2.2 < (s3.1.length : Int) then
    (Pu.ix s3.1 s3.2.2).bind fun x3 =>
    (P.parlkeep5_fewer_1 x3 a1c0).bind fun x4 =>
    (if !x4 then
        (Pu.ix s3.1 s3.2.1).bind fun x5 =>
        some ((Pu.st s3.1 s3.2.1 x3), (Pu.W (s3.2.1 + 1)))
      else
        some (s3.1, s3.2.1)).bind fun y3 =>
    some (Pu.Step.nx (y3.1, y3.2, (Pu.W (s3.2.2 + 1))))
  else
    some (Pu.Step.br (s3.1, s3.2.1, s3.2.2))
def P.slices_DeleteFunc_int_int__parlkeep5_fewer_1 (φ : Nat) (a0 : (List (List Int))) (a1c0 : Int) : Option (List (List Int)) :=
  (P.slices_IndexFunc_int_int_34__parlkeep5_fewer_1 a0 a1c0).bind fun x1 =>
  if x1 = (-1) then
    some a0
  else
    (Pu.whl (P.slices_DeleteFunc_int_int__parlkeep5_fewer_1.b0 a1c0) φ (a0, x1, (Pu.W (x1 + 1)))).bind fun y1 =>
    y1.cs (fun s5 =>
      (Pu.sub s5.1 s5.2.1 s5.1.length).bind fun x6 =>
      (Pu.sub (Pu.clrF s5.1 s5.2.1 []) 0 s5.2.1).bind fun x7 =>
      some x7) (fun r => none)
/-! parlkeep5_fewer -/
def P.parlkeep5_fewer (φ : Nat) (a0 : Ty.api_Dfa) (a1 : Int) (a2 : (List Int)) : Option ((List (List Int)) × (List (List Int))) :=
  (P.parlkeep5_examples φ a0 a2).bind fun x1 =>
  (P.slices_DeleteFunc_int_int__parlkeep5_fewer_1 φ x1.1 a1).bind fun x2 =>
  (P.slices_DeleteFunc_int_int__parlkeep5_fewer_1 φ x1.2 a1).bind fun x3 =>
  (Pu.sub x2 0 (Pu.imin 3 (x2.length : Int))).bind fun x4 =>
  (Pu.sub x3 0 (Pu.imin 3 (x3.length : Int))).bind fun x5 =>
  some (x4, x5)
/-! cmp_isNaN_int -/
def P.cmp_isNaN_int (a0 : Int) : Option Bool :=
  some (decide (a0 ≠ a0))
/-! cmp_Compare_int -/
def P.cmp_Compare_int (a0 : Int) (a1 : Int) : Option Int :=
  (P.cmp_isNaN_int a0).bind fun x1 =>
  (P.cmp_isNaN_int a1).bind fun x2 =>
  if x1 then
    if x2 then
      some 0
    else
      some (-1)
  else
    if x2 then
      some 1
    else
      if a0 < a1 then
        some (-1)
      else
        if a1 < a0 then
          some 1
        else
          some 0
/-! gram_Order -/
def P.gram_Order (a0 : Ty.api_Sym) (a1 : Ty.api_Sym) : Option Int :=
  if (a0.Term && (!a1.Term)) then
    some (-1)
  else
    if ((!a0.Term) && a1.Term) then
      some 1
    else
      (P.cmp_Compare_int a0.N a1.N).bind fun x1 =>
      some x1
/-! slices_CompareFunc_api_Sym_api_Sym_api_Sym_api_Sym__gram_Order -/
def P.slices_CompareFunc_api_Sym_api_Sym_api_Sym_api_Sym__gram_Order.b0 (a1 : (List Ty.api_Sym)) (i1 : Int) (x1 : Ty.api_Sym) (s1 : Unit) : Option (Pu.Step Unit Int) :=
  if (a1.length : Int) ≤ (i1 : Int) then
    some (Pu.Step.rt 1)
  else
    (Pu.ix a1 (i1 : Int)).bind fun x2 =>
    (P.gram_Order x1 x2).bind fun x3 =>
    if x3 ≠ 0 then
      some (Pu.Step.rt x3)
    else
      some (Pu.Step.nx ())
def P.slices_CompareFunc_api_Sym_api_Sym_api_Sym_api_Sym__gram_Order (a0 : (List Ty.api_Sym)) (a1 : (List Ty.api_Sym)) : Option Int :=
  (Pu.forL (P.slices_CompareFunc_api_Sym_api_Sym_api_Sym_api_Sym__gram_Order.b0 a1) 0 a0 ()).bind fun y1 =>
  y1.cs (fun s3 =>
    if (a0.length : Int) < (a1.length : Int) then
      some (-1)
    else
      some 0) (fun r => some r)
/-! gram_Compare -/
def P.gram_Compare (a0 : Ty.api_Rule) (a1 : Ty.api_Rule) : Option Int :=
  (P.cmp_Compare_int a0.Left a1.Left).bind fun x1 =>
  if x1 ≠ 0 then
    some x1
  else
    (P.slices_CompareFunc_api_Sym_api_Sym_api_Sym_api_Sym__gram_Order a0.Right a1.Right).bind fun x2 =>
    some x2
/-! gram_Check -/
def P.gram_Check.b2 (x1 : Ty.api_Rule) (i14 : Int) (x4 : Ty.api_Rule) (s25 : Unit) : Option (Pu.Step Unit (Pu.Step Unit Int)) :=
  (P.gram_Compare x4 x1).bind fun x5 =>
  if x5 = 0 then
    some (Pu.Step.rt (Pu.Step.rt 6))
  else
    some (Pu.Step.nx ())
def P.gram_Check.b1 (a0 : Ty.api_Grammar) (i8 : Int) (x2 : Ty.api_Sym) (s14 : Unit) : Option (Pu.Step Unit (Pu.Step Unit Int)) :=
  (if decide (x2.N < 0) then
      some true
    else
      some (x2.Term && (decide (a0.Terms ≤ x2.N)))).bind fun y5 =>
  (if y5 then
      some true
    else
      some ((!x2.Term) && (decide (a0.Nons ≤ x2.N)))).bind fun y6 =>
  if y6 then
    some (Pu.Step.rt (Pu.Step.rt 3))
  else
    some (Pu.Step.nx ())
def P.gram_Check.b0 (a0 : Ty.api_Grammar) (i6 : Int) (x1 : Ty.api_Rule) (s7 : Unit) : Option (Pu.Step Unit Int) :=
  if ((decide (x1.Left < 0)) || (decide (a0.Nons ≤ x1.Left))) then
    some (Pu.Step.rt 3)
  else
    if 4 < (x1.Right.length : Int) then
      some (Pu.Step.rt 2)
    else
      (Pu.forL (P.gram_Check.b1 a0) 0 x1.Right ()).bind fun y3 =>
      y3.cs (fun s16 =>
        (Pu.sub a0.Rules 0 (i6 : Int)).bind fun x3 =>
        (Pu.forL (P.gram_Check.b2 x1) 0 x3 ()).bind fun y7 =>
        y7.cs (fun s27 =>
          some (Pu.Step.nx ())) (fun r => some r)) (fun r => some r)
def P.gram_Check (a0 : Ty.api_Grammar) : Option Int :=
  if ((((((decide (a0.Terms < 1)) || (decide (8 < a0.Terms))) || (decide (a0.Nons < 1))) || (decide (10 < a0.Nons))) || (decide (a0.Start < 0))) || (decide (a0.Nons ≤ a0.Start))) then
    some 1
  else
    if 32 < (a0.Rules.length : Int) then
      some 2
    else
      (Pu.forL (P.gram_Check.b0 a0) 0 a0.Rules ()).bind fun y1 =>
      y1.cs (fun s9 =>
        some 0) (fun r => some r)
/-! gram_Word -/
def P.gram_Word.b0 (a0 : Ty.api_Grammar) (i1 : Int) (x1 : Int) (s2 : Unit) : Option (Pu.Step Unit Int) :=
  if ((decide (x1 < 0)) || (decide (a0.Terms ≤ x1))) then
    some (Pu.Step.rt 1)
  else
    some (Pu.Step.nx ())
def P.gram_Word (a0 : Ty.api_Grammar) (a1 : (List Int)) (a2 : Int) : Option Int :=
  if a2 < (a1.length : Int) then
    some 2
  else
    (Pu.forL (P.gram_Word.b0 a0) 0 a1 ()).bind fun y1 =>
    y1.cs (fun s4 =>
      some 0) (fun r => some r)
/-! mean_check -/
def P.mean_check (a0 : Ty.api_Grammar) (a1 : (List Int)) : Option Int :=
  (P.gram_Check a0).bind fun x1 =>
  if x1 ≠ 0 then
    some x1
  else
    (P.gram_Word a0 a1 12).bind fun x2 =>
    some x2
/-! mean_ends_after -/
def P.mean_ends_after.b0 (a0 : Ty.mean_ends) (a1 : Ty.api_Sym) (a2 : Int) (s2 : (Int × Int)) : Option (Pu.Step (Int × Int) Unit) :=
  if s2.2 ≤ (a0.w.length : Int) then
    (Pu.shr .u32 a2 s2.2).bind fun x2 =>
    if (Pu.band .u32 x2 1) = 0 then
      some (Pu.Step.nx (s2.1, (Pu.W (s2.2 + 1))))
    else
      (if !a1.Term then
          (Pu.ix a0.of_ a1.N).bind fun x3 =>
          (Pu.ix x3 s2.2).bind fun x4 =>
          some (Pu.bor .u32 s2.1 x4)
        else
          (if decide (s2.2 < (a0.w.length : Int)) then
              (Pu.ix a0.w s2.2).bind fun x5 =>
              some (decide (x5 = a1.N))
            else
              some false).bind fun y4 =>
          (if y4 then
              (Pu.shl .u32 1 (Pu.W (s2.2 + 1))).bind fun x6 =>
              some (Pu.bor .u32 s2.1 x6)
            else
              some s2.1).bind fun y5 =>
          some y5).bind fun y3 =>
      some (Pu.Step.nx (y3, (Pu.W (s2.2 + 1))))
  else
    some (Pu.Step.br (s2.1, s2.2))
def P.mean_ends_after (φ : Nat) (a0 : Ty.mean_ends) (a1 : Ty.api_Sym) (a2 : Int) : Option Int :=
  (Pu.whl (P.mean_ends_after.b0 a0 a1 a2) φ (0, 0)).bind fun y1 =>
  y1.cs (fun s4 =>
    some s4.1) (fun r => none)
/-! mean_derived -/
def P.mean_derived.b4 (φ : Nat) (a0 : Ty.api_Grammar) (a1 : (List Int)) (s22 : ((List (List Int)) × Bool)) (i8 : Int) (x12 : Ty.api_Sym) (s25 : Int) : Option Int :=
  (P.mean_ends_after φ (Ty.mean_ends.mk a0 a1 s22.1) x12 s25).bind fun x13 =>
  some x13
def P.mean_derived.b3 (φ : Nat) (a0 : Ty.api_Grammar) (a1 : (List Int)) (x7 : Ty.api_Rule) (i6 : Int) (x9 : Int) (s22 : ((List (List Int)) × Bool)) : Option ((List (List Int)) × Bool) :=
  (Pu.shl .u32 1 x9).bind fun x11 =>
  (Pu.forP (P.mean_derived.b4 φ a0 a1 s22) 0 x7.Right x11).bind fun y6 =>
  (Pu.ix s22.1 x7.Left).bind fun x14 =>
  (Pu.ix x14 x9).bind fun x15 =>
  (if (Pu.bandn .u32 y6 x15) ≠ 0 then
      (Pu.ix s22.1 x7.Left).bind fun x16 =>
      (Pu.ix x16 x9).bind fun x17 =>
      (Pu.ix x16 x9).bind fun x18 =>
      some ((Pu.st s22.1 x7.Left (Pu.st x16 x9 (Pu.bor .u32 x17 y6))), true)
    else
      some (s22.1, s22.2)).bind fun y7 =>
  some (y7.1, y7.2)
def P.mean_derived.b2 (φ : Nat) (a0 : Ty.api_Grammar) (a1 : (List Int)) (i4 : Int) (x7 : Ty.api_Rule) (s16 : ((List (List Int)) × Bool)) : Option ((List (List Int)) × Bool) :=
  (Pu.ix s16.1 x7.Left).bind fun x8 =>
  (Pu.ranO (x8.length : Int)).bind fun x10 =>
  (Pu.forP (P.mean_derived.b3 φ a0 a1 x7) 0 x10 (s16.1, s16.2)).bind fun y5 =>
  some (y5.1, y5.2)
def P.mean_derived.b1 (φ : Nat) (a0 : Ty.api_Grammar) (a1 : (List Int)) (s12 : ((List (List Int)) × Bool)) : Option (Pu.Step ((List (List Int)) × Bool) Unit) :=
  if s12.2 then
    (Pu.forP (P.mean_derived.b2 φ a0 a1) 0 a0.Rules (s12.1, false)).bind fun y4 =>
    some (Pu.Step.nx (y4.1, y4.2))
  else
    some (Pu.Step.br (s12.1, s12.2))
def P.mean_derived.b0 (a1 : (List Int)) (i2 : Int) (x2 : Int) (s5 : (List (List Int))) : Option (List (List Int)) :=
  (Pu.mk 4 (Pu.W ((a1.length : Int) + 1)) (Pu.W ((a1.length : Int) + 1)) 0).bind fun x4 =>
  (Pu.ix s5 x2).bind fun x5 =>
  some (Pu.st s5 x2 x4)
def P.mean_derived (φ : Nat) (a0 : Ty.api_Grammar) (a1 : (List Int)) : Option Ty.mean_ends :=
  (Pu.mk 24 a0.Nons a0.Nons []).bind fun x1 =>
  (Pu.ranO (x1.length : Int)).bind fun x3 =>
  (Pu.forP (P.mean_derived.b0 a1) 0 x3 x1).bind fun y1 =>
  (Pu.whl (P.mean_derived.b1 φ a0 a1) φ (y1, true)).bind fun y2 =>
  y2.cs (fun s14 =>
    some (Ty.mean_ends.mk a0 a1 s14.1)) (fun r => none)
/-! mean_ends_is -/
def P.mean_ends_is (φ : Nat) (a0 : Ty.mean_ends) (a1 : Ty.api_Sym) (a2 : Int) (a3 : Int) : Option Bool :=
  (Pu.shl .u32 1 a2).bind fun x1 =>
  (P.mean_ends_after φ a0 a1 x1).bind fun x2 =>
  (Pu.shr .u32 x2 a3).bind fun x3 =>
  some (decide ((Pu.band .u32 x3 1) = 1))
/-! mean_Accepts -/
def P.mean_Accepts (φ : Nat) (a0 : Ty.api_Grammar) (a1 : (List Int)) : Option (Bool × Int) :=
  (P.mean_check a0 a1).bind fun x1 =>
  if x1 ≠ 0 then
    some (false, x1)
  else
    (P.mean_derived φ a0 a1).bind fun x2 =>
    (P.mean_ends_is φ (Ty.mean_ends.mk (Ty.api_Grammar.mk x2.g.Terms x2.g.Nons x2.g.Start a0.Rules) a1 x2.of_) (Ty.api_Sym.mk false a0.Start) 0 (a1.length : Int)).bind fun x3 =>
    some (x3, 0)
/-! parlkeep5_GuessAgrees -/
def P.parlkeep5_GuessAgrees.b1 (φ : Nat) (x6 : (Ty.api_Grammar × Int)) (i15 : Int) (x9 : (List Int)) (s34 : Unit) : Option (Pu.Step Unit Bool) :=
  (P.mean_Accepts φ x6.1 x9).bind fun x10 =>
  if ((decide (x10.2 ≠ 0)) || x10.1) then
    some (Pu.Step.rt false)
  else
    some (Pu.Step.nx ())
def P.parlkeep5_GuessAgrees.b0 (φ : Nat) (x6 : (Ty.api_Grammar × Int)) (i10 : Int) (x7 : (List Int)) (s26 : Unit) : Option (Pu.Step Unit Bool) :=
  (P.mean_Accepts φ x6.1 x7).bind fun x8 =>
  if ((decide (x8.2 ≠ 0)) || (!x8.1)) then
    some (Pu.Step.rt false)
  else
    some (Pu.Step.nx ())
def P.parlkeep5_GuessAgrees (φ : Nat) (a0 : (List Int)) (a1 : (List Int)) (a2 : Int) : Option Bool :=
  (P.parlmake_Dfa a0).bind fun x1 =>
  (P.guess_Of φ 1 1 [[0]] [[]]).bind fun x2 =>
  if ((decide (x2.2 ≠ 0)) || (decide ((x2.1.Rules.length : Int) ≠ 1))) then
    some false
  else
    (Pu.ix x1.Next 0).bind fun x3 =>
    (P.parlkeep5_fewer φ x1 (Pu.imin 2 (x3.length : Int)) a1).bind fun x4 =>
    (P.parlkeep5_below a2 2).bind fun x5 =>
    (P.guess_Of φ (Pu.imin 2 (x3.length : Int)) (Pu.W (1 + x5)) x4.1 x4.2).bind fun x6 =>
    if x6.2 ≠ 0 then
      some (decide (x6.2 = 5))
    else
      (Pu.forL (P.parlkeep5_GuessAgrees.b0 φ x6) 0 x4.1 ()).bind fun y1 =>
      y1.cs (fun s28 =>
        (Pu.forL (P.parlkeep5_GuessAgrees.b1 φ x6) 0 x4.2 ()).bind fun y3 =>
        y3.cs (fun s36 =>
          some (decide ((x6.1.Rules.length : Int) ≤ 3))) (fun r => some r)) (fun r => some r)
end Go.Proofs.Ytcdhhelgoppleaa
