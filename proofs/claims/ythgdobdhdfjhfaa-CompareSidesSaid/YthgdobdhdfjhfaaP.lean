/- Plain functions, printed by wip/tools/lift.py. -/
import Derived.Test.YthgdobdhdfjhfaaOwR
namespace Go.Proofs.Ythgdobdhdfjhfaa
open Go Go.Ab
/-! parlmake_Below -/
def P.parlmake_Below (a0 : Int) (a1 : Int) : Option Int :=
  (Pu.rem a0 a1).bind fun x1 =>
  (if x1 < 0 then
      some (Pu.W (x1 + a1))
    else
      some x1).bind fun y1 =>
  some y1
/-! parlmake_stream_next -/
def P.parlmake_stream_next (a0 : Ty.parlmake_stream) (a1 : Int) : Option (Ty.parlmake_stream × Int) :=
  if (a0.l.length : Int) = 0 then
    some (a0, 0)
  else
    (Pu.ix a0.l 0).bind fun x1 =>
    (Pu.sub a0.l 1 a0.l.length).bind fun x2 =>
    (P.parlmake_Below x1 a1).bind fun x3 =>
    some ((Ty.parlmake_stream.mk x2), x3)
/-! parlmake_has -/
def P.parlmake_has.b1 (a1 : Ty.api_Rule) (x1 : Ty.api_Rule) (i3 : Int) (x2 : Int) (s9 : Bool) : Option Bool :=
  (if s9 then
      (Pu.ix x1.Right x2).bind fun x4 =>
      (Pu.ix a1.Right x2).bind fun x5 =>
      some ((x4.Term == x5.Term) && (x4.N == x5.N))
    else
      some false).bind fun y4 =>
  some y4
def P.parlmake_has.b0 (a1 : Ty.api_Rule) (i1 : Int) (x1 : Ty.api_Rule) (s2 : Unit) : Option (Pu.Step Unit Bool) :=
  if ((decide (x1.Left ≠ a1.Left)) || (decide ((x1.Right.length : Int) ≠ (a1.Right.length : Int)))) then
    some (Pu.Step.nx ())
  else
    (Pu.ranO (x1.Right.length : Int)).bind fun x3 =>
    (Pu.forP (P.parlmake_has.b1 a1 x1) 0 x3 true).bind fun y3 =>
    if y3 then
      some (Pu.Step.rt true)
    else
      some (Pu.Step.nx ())
def P.parlmake_has (a0 : (List Ty.api_Rule)) (a1 : Ty.api_Rule) : Option Bool :=
  (Pu.forL (P.parlmake_has.b0 a1) 0 a0 ()).bind fun y1 =>
  y1.cs (fun s4 =>
    some false) (fun r => some r)
/-! parlmake_Grammar -/
def P.parlmake_Grammar.b1 (x1 : (Ty.parlmake_stream × Int)) (x2 : (Ty.parlmake_stream × Int)) (i10 : Int) (x9 : Int) (s29 : ((List Int) × (List Ty.api_Sym))) : Option ((List Int) × (List Ty.api_Sym)) :=
  (P.parlmake_stream_next (Ty.parlmake_stream.mk s29.1) 2).bind fun x11 =>
  (if x11.2 = 0 then
      (P.parlmake_stream_next x11.1 (Pu.W (1 + x1.2))).bind fun x12 =>
      (Pu.app 16 s29.2 [(Ty.api_Sym.mk true x12.2)]).bind fun x13 =>
      some (x12.1.l, x13)
    else
      (P.parlmake_stream_next x11.1 (Pu.W (1 + x2.2))).bind fun x14 =>
      (Pu.app 16 s29.2 [(Ty.api_Sym.mk false x14.2)]).bind fun x15 =>
      some (x14.1.l, x15)).bind fun y3 =>
  some (y3.1, y3.2)
def P.parlmake_Grammar.b0 (x1 : (Ty.parlmake_stream × Int)) (x2 : (Ty.parlmake_stream × Int)) (i6 : Int) (x5 : Int) (s18 : ((List Int) × (List Ty.api_Rule))) : Option ((List Int) × (List Ty.api_Rule)) :=
  (P.parlmake_stream_next (Ty.parlmake_stream.mk s18.1) (Pu.W (1 + x2.2))).bind fun x7 =>
  (P.parlmake_stream_next x7.1 4).bind fun x8 =>
  (Pu.ranO x8.2).bind fun x10 =>
  (Pu.forP (P.parlmake_Grammar.b1 x1 x2) 0 x10 (x8.1.l, [])).bind fun y2 =>
  (P.parlmake_has s18.2 (Ty.api_Rule.mk x7.2 y2.2)).bind fun x16 =>
  (if !x16 then
      (Pu.app 32 s18.2 [(Ty.api_Rule.mk x7.2 y2.2)]).bind fun x17 =>
      some x17
    else
      some s18.2).bind fun y4 =>
  some (y2.1, y4)
def P.parlmake_Grammar (a0 : (List Int)) : Option Ty.api_Grammar :=
  (P.parlmake_stream_next (Ty.parlmake_stream.mk a0) 3).bind fun x1 =>
  (P.parlmake_stream_next x1.1 4).bind fun x2 =>
  (P.parlmake_stream_next x2.1 (Pu.W (1 + x2.2))).bind fun x3 =>
  (P.parlmake_stream_next x3.1 8).bind fun x4 =>
  (Pu.ranO (Pu.W (1 + x4.2))).bind fun x6 =>
  (Pu.forP (P.parlmake_Grammar.b0 x1 x2) 0 x6 (x4.1.l, [])).bind fun y1 =>
  some (Ty.api_Grammar.mk (Pu.W (1 + x1.2)) (Pu.W (1 + x2.2)) x3.2 y1.2)
/-! parlkeep5_plain -/
def P.parlkeep5_plain : Option Ty.api_Grammar :=
  some (Ty.api_Grammar.mk 2 1 0 [(Ty.api_Rule.mk 0 [(Ty.api_Sym.mk true 0)]), (Ty.api_Rule.mk 0 [(Ty.api_Sym.mk true 1), (Ty.api_Sym.mk false 0)])])
/-! parlkeep5_below -/
def P.parlkeep5_below (a0 : Int) (a1 : Int) : Option Int :=
  (P.parlmake_Below a0 a1).bind fun x1 =>
  some x1
/-! slices_Equal_api_Sym_api_Sym -/
def P.slices_Equal_api_Sym_api_Sym.b0 (a0 : (List Ty.api_Sym)) (a1 : (List Ty.api_Sym)) (i1 : Int) (x1 : Int) (s1 : Unit) : Option (Pu.Step Unit Bool) :=
  (Pu.ix a0 x1).bind fun x3 =>
  (Pu.ix a1 x1).bind fun x4 =>
  if !((x3.Term == x4.Term) && (x3.N == x4.N)) then
    some (Pu.Step.rt false)
  else
    some (Pu.Step.nx ())
def P.slices_Equal_api_Sym_api_Sym (a0 : (List Ty.api_Sym)) (a1 : (List Ty.api_Sym)) : Option Bool :=
  if (a0.length : Int) ≠ (a1.length : Int) then
    some false
  else
    (Pu.ranO (a0.length : Int)).bind fun x2 =>
    (Pu.forL (P.slices_Equal_api_Sym_api_Sym.b0 a0 a1) 0 x2 ()).bind fun y1 =>
    y1.cs (fun s3 =>
      some true) (fun r => some r)
/-! parlkeep5_distinct_1 -/
def P.parlkeep5_distinct_1 (a0 : Ty.api_Rule) (a1 : Ty.api_Rule) : Option Bool :=
  (if decide (a0.Left = a1.Left) then
      (P.slices_Equal_api_Sym_api_Sym a0.Right a1.Right).bind fun x1 =>
      some x1
    else
      some false).bind fun y1 =>
  some y1
/-! slices_IndexFunc_api_Rule_api_Rule__parlkeep5_distinct_1 -/
def P.slices_IndexFunc_api_Rule_api_Rule__parlkeep5_distinct_1.b0 (a0 : (List Ty.api_Rule)) (a1c0 : Ty.api_Rule) (i1 : Int) (x1 : Int) (s1 : Unit) : Option (Pu.Step Unit Int) :=
  (Pu.ix a0 x1).bind fun x3 =>
  (P.parlkeep5_distinct_1 x3 a1c0).bind fun x4 =>
  if x4 then
    some (Pu.Step.rt x1)
  else
    some (Pu.Step.nx ())
def P.slices_IndexFunc_api_Rule_api_Rule__parlkeep5_distinct_1 (a0 : (List Ty.api_Rule)) (a1c0 : Ty.api_Rule) : Option Int :=
  (Pu.ranO (a0.length : Int)).bind fun x2 =>
  (Pu.forL (P.slices_IndexFunc_api_Rule_api_Rule__parlkeep5_distinct_1.b0 a0 a1c0) 0 x2 ()).bind fun y1 =>
  y1.cs (fun s3 =>
    some (-1)) (fun r => some r)
/-! slices_ContainsFunc_api_Rule_api_Rule__parlkeep5_distinct_1 -/
def P.slices_ContainsFunc_api_Rule_api_Rule__parlkeep5_distinct_1 (a0 : (List Ty.api_Rule)) (a1c0 : Ty.api_Rule) : Option Bool :=
  (P.slices_IndexFunc_api_Rule_api_Rule__parlkeep5_distinct_1 a0 a1c0).bind fun x1 =>
  some (decide (0 ≤ x1))
/-! parlkeep5_distinct -/
def P.parlkeep5_distinct.b0 (i1 : Int) (x1 : Ty.api_Rule) (s1 : (List Ty.api_Rule)) : Option (List Ty.api_Rule) :=
  (P.slices_ContainsFunc_api_Rule_api_Rule__parlkeep5_distinct_1 s1 x1).bind fun x2 =>
  (if !x2 then
      (Pu.app 32 s1 [x1]).bind fun x3 =>
      some x3
    else
      some s1).bind fun y2 =>
  some y2
def P.parlkeep5_distinct (a0 : (List Ty.api_Rule)) : Option (List Ty.api_Rule) :=
  (Pu.forP (P.parlkeep5_distinct.b0) 0 a0 []).bind fun y1 =>
  some y1
/-! cmp_isNaN_int -/
def P.cmp_isNaN_int (a0 : Int) : Option Bool :=
  some (decide (a0 ≠ a0))
/-! cmp_Compare_int -/
def P.cmp_Compare_int (a0 : Int) (a1 : Int) : Option Int :=
  (P.cmp_isNaN_int a0).bind fun x1 =>
  (P.cmp_isNaN_int a1).bind fun x2 =>
  if x1 then
    if x2 then
      some 0
    else
      some (-1)
  else
    if x2 then
      some 1
    else
      if a0 < a1 then
        some (-1)
      else
        if a1 < a0 then
          some 1
        else
          some 0
/-! gram_Order -/
def P.gram_Order (a0 : Ty.api_Sym) (a1 : Ty.api_Sym) : Option Int :=
  if (a0.Term && (!a1.Term)) then
    some (-1)
  else
    if ((!a0.Term) && a1.Term) then
      some 1
    else
      (P.cmp_Compare_int a0.N a1.N).bind fun x1 =>
      some x1
/-! slices_CompareFunc_api_Sym_api_Sym_api_Sym_api_Sym__gram_Order -/
def P.slices_CompareFunc_api_Sym_api_Sym_api_Sym_api_Sym__gram_Order.b0 (a1 : (List Ty.api_Sym)) (i1 : Int) (x1 : Ty.api_Sym) (s1 : Unit) : Option (Pu.Step Unit Int) :=
  if (a1.length : Int) ≤ (i1 : Int) then
    some (Pu.Step.rt 1)
  else
    (Pu.ix a1 (i1 : Int)).bind fun x2 =>
    (P.gram_Order x1 x2).bind fun x3 =>
    if x3 ≠ 0 then
      some (Pu.Step.rt x3)
    else
      some (Pu.Step.nx ())
def P.slices_CompareFunc_api_Sym_api_Sym_api_Sym_api_Sym__gram_Order (a0 : (List Ty.api_Sym)) (a1 : (List Ty.api_Sym)) : Option Int :=
  (Pu.forL (P.slices_CompareFunc_api_Sym_api_Sym_api_Sym_api_Sym__gram_Order.b0 a1) 0 a0 ()).bind fun y1 =>
  y1.cs (fun s3 =>
    if (a0.length : Int) < (a1.length : Int) then
      some (-1)
    else
      some 0) (fun r => some r)
/-! gram_Compare -/
def P.gram_Compare (a0 : Ty.api_Rule) (a1 : Ty.api_Rule) : Option Int :=
  (P.cmp_Compare_int a0.Left a1.Left).bind fun x1 =>
  if x1 ≠ 0 then
    some x1
  else
    (P.slices_CompareFunc_api_Sym_api_Sym_api_Sym_api_Sym__gram_Order a0.Right a1.Right).bind fun x2 =>
    some x2
/-! gram_Check -/
def P.gram_Check.b2 (x1 : Ty.api_Rule) (i14 : Int) (x4 : Ty.api_Rule) (s25 : Unit) : Option (Pu.Step Unit (Pu.Step Unit Int)) :=
  (P.gram_Compare x4 x1).bind fun x5 =>
  if x5 = 0 then
    some (Pu.Step.rt (Pu.Step.rt 6))
  else
    some (Pu.Step.nx ())
def P.gram_Check.b1 (a0 : Ty.api_Grammar) (i8 : Int) (x2 : Ty.api_Sym) (s14 : Unit) : Option (Pu.Step Unit (Pu.Step Unit Int)) :=
  (if decide (x2.N < 0) then
      some true
    else
      some (x2.Term && (decide (a0.Terms ≤ x2.N)))).bind fun y5 =>
  (if y5 then
      some true
    else
      some ((!x2.Term) && (decide (a0.Nons ≤ x2.N)))).bind fun y6 =>
  if y6 then
    some (Pu.Step.rt (Pu.Step.rt 3))
  else
    some (Pu.Step.nx ())
def P.gram_Check.b0 (a0 : Ty.api_Grammar) (i6 : Int) (x1 : Ty.api_Rule) (s7 : Unit) : Option (Pu.Step Unit Int) :=
  if ((decide (x1.Left < 0)) || (decide (a0.Nons ≤ x1.Left))) then
    some (Pu.Step.rt 3)
  else
    if 4 < (x1.Right.length : Int) then
      some (Pu.Step.rt 2)
    else
      (Pu.forL (P.gram_Check.b1 a0) 0 x1.Right ()).bind fun y3 =>
      y3.cs (fun s16 =>
        (Pu.sub a0.Rules 0 (i6 : Int)).bind fun x3 =>
        (Pu.forL (P.gram_Check.b2 x1) 0 x3 ()).bind fun y7 =>
        y7.cs (fun s27 =>
          some (Pu.Step.nx ())) (fun r => some r)) (fun r => some r)
def P.gram_Check (a0 : Ty.api_Grammar) : Option Int :=
  if ((((((decide (a0.Terms < 1)) || (decide (8 < a0.Terms))) || (decide (a0.Nons < 1))) || (decide (10 < a0.Nons))) || (decide (a0.Start < 0))) || (decide (a0.Nons ≤ a0.Start))) then
    some 1
  else
    if 32 < (a0.Rules.length : Int) then
      some 2
    else
      (Pu.forL (P.gram_Check.b0 a0) 0 a0.Rules ()).bind fun y1 =>
      y1.cs (fun s9 =>
        some 0) (fun r => some r)
/-! gram_Word -/
def P.gram_Word.b0 (a0 : Ty.api_Grammar) (i1 : Int) (x1 : Int) (s2 : Unit) : Option (Pu.Step Unit Int) :=
  if ((decide (x1 < 0)) || (decide (a0.Terms ≤ x1))) then
    some (Pu.Step.rt 1)
  else
    some (Pu.Step.nx ())
def P.gram_Word (a0 : Ty.api_Grammar) (a1 : (List Int)) (a2 : Int) : Option Int :=
  if a2 < (a1.length : Int) then
    some 2
  else
    (Pu.forL (P.gram_Word.b0 a0) 0 a1 ()).bind fun y1 =>
    y1.cs (fun s4 =>
      some 0) (fun r => some r)
/-! mean_check -/
def P.mean_check (a0 : Ty.api_Grammar) (a1 : (List Int)) : Option Int :=
  (P.gram_Check a0).bind fun x1 =>
  if x1 ≠ 0 then
    some x1
  else
    (P.gram_Word a0 a1 12).bind fun x2 =>
    some x2
/-! mean_ends_after -/
def P.mean_ends_after.b0 (a0 : Ty.mean_ends) (a1 : Ty.api_Sym) (a2 : Int) (s2 : (Int × Int)) : Option (Pu.Step (Int × Int) Unit) :=
  if s2.2 ≤ (a0.w.length : Int) then
    (Pu.shr .u32 a2 s2.2).bind fun x2 =>
    if (Pu.band .u32 x2 1) = 0 then
      some (Pu.Step.nx (s2.1, (Pu.W (s2.2 + 1))))
    else
      (if !a1.Term then
          (Pu.ix a0.of_ a1.N).bind fun x3 =>
          (Pu.ix x3 s2.2).bind fun x4 =>
          some (Pu.bor .u32 s2.1 x4)
        else
          (if decide (s2.2 < (a0.w.length : Int)) then
              (Pu.ix a0.w s2.2).bind fun x5 =>
              some (decide (x5 = a1.N))
            else
              some false).bind fun y4 =>
          (if y4 then
              (Pu.shl .u32 1 (Pu.W (s2.2 + 1))).bind fun x6 =>
              some (Pu.bor .u32 s2.1 x6)
            else
              some s2.1).bind fun y5 =>
          some y5).bind fun y3 =>
      some (Pu.Step.nx (y3, (Pu.W (s2.2 + 1))))
  else
    some (Pu.Step.br (s2.1, s2.2))
def P.mean_ends_after (φ : Nat) (a0 : Ty.mean_ends) (a1 : Ty.api_Sym) (a2 : Int) : Option Int :=
  (Pu.whl (P.mean_ends_after.b0 a0 a1 a2) φ (0, 0)).bind fun y1 =>
  y1.cs (fun s4 =>
    some s4.1) (fun r => none)
/-! mean_derived -/
def P.mean_derived.b4 (φ : Nat) (a0 : Ty.api_Grammar) (a1 : (List Int)) (s22 : ((List (List Int)) × Bool)) (i8 : Int) (x12 : Ty.api_Sym) (s25 : Int) : Option Int :=
  (P.mean_ends_after φ (Ty.mean_ends.mk a0 a1 s22.1) x12 s25).bind fun x13 =>
  some x13
def P.mean_derived.b3 (φ : Nat) (a0 : Ty.api_Grammar) (a1 : (List Int)) (x7 : Ty.api_Rule) (i6 : Int) (x9 : Int) (s22 : ((List (List Int)) × Bool)) : Option ((List (List Int)) × Bool) :=
  (Pu.shl .u32 1 x9).bind fun x11 =>
  (Pu.forP (P.mean_derived.b4 φ a0 a1 s22) 0 x7.Right x11).bind fun y6 =>
  (Pu.ix s22.1 x7.Left).bind fun x14 =>
  (Pu.ix x14 x9).bind fun x15 =>
  (if (Pu.bandn .u32 y6 x15) ≠ 0 then
      (Pu.ix s22.1 x7.Left).bind fun x16 =>
      (Pu.ix x16 x9).bind fun x17 =>
      (Pu.ix x16 x9).bind fun x18 =>
      some ((Pu.st s22.1 x7.Left (Pu.st x16 x9 (Pu.bor .u32 x17 y6))), true)
    else
      some (s22.1, s22.2)).bind fun y7 =>
  some (y7.1, y7.2)
def P.mean_derived.b2 (φ : Nat) (a0 : Ty.api_Grammar) (a1 : (List Int)) (i4 : Int) (x7 : Ty.api_Rule) (s16 : ((List (List Int)) × Bool)) : Option ((List (List Int)) × Bool) :=
  (Pu.ix s16.1 x7.Left).bind fun x8 =>
  (Pu.ranO (x8.length : Int)).bind fun x10 =>
  (Pu.forP (P.mean_derived.b3 φ a0 a1 x7) 0 x10 (s16.1, s16.2)).bind fun y5 =>
  some (y5.1, y5.2)
def P.mean_derived.b1 (φ : Nat) (a0 : Ty.api_Grammar) (a1 : (List Int)) (s12 : ((List (List Int)) × Bool)) : Option (Pu.Step ((List (List Int)) × Bool) Unit) :=
  if s12.2 then
    (Pu.forP (P.mean_derived.b2 φ a0 a1) 0 a0.Rules (s12.1, false)).bind fun y4 =>
    some (Pu.Step.nx (y4.1, y4.2))
  else
    some (Pu.Step.br (s12.1, s12.2))
def P.mean_derived.b0 (a1 : (List Int)) (i2 : Int) (x2 : Int) (s5 : (List (List Int))) : Option (List (List Int)) :=
  (Pu.mk 4 (Pu.W ((a1.length : Int) + 1)) (Pu.W ((a1.length : Int) + 1)) 0).bind fun x4 =>
  (Pu.ix s5 x2).bind fun x5 =>
  some (Pu.st s5 x2 x4)
def P.mean_derived (φ : Nat) (a0 : Ty.api_Grammar) (a1 : (List Int)) : Option Ty.mean_ends :=
  (Pu.mk 24 a0.Nons a0.Nons []).bind fun x1 =>
  (Pu.ranO (x1.length : Int)).bind fun x3 =>
  (Pu.forP (P.mean_derived.b0 a1) 0 x3 x1).bind fun y1 =>
  (Pu.whl (P.mean_derived.b1 φ a0 a1) φ (y1, true)).bind fun y2 =>
  y2.cs (fun s14 =>
    some (Ty.mean_ends.mk a0 a1 s14.1)) (fun r => none)
/-! mean_ends_is -/
def P.mean_ends_is (φ : Nat) (a0 : Ty.mean_ends) (a1 : Ty.api_Sym) (a2 : Int) (a3 : Int) : Option Bool :=
  (Pu.shl .u32 1 a2).bind fun x1 =>
  (P.mean_ends_after φ a0 a1 x1).bind fun x2 =>
  (Pu.shr .u32 x2 a3).bind fun x3 =>
  some (decide ((Pu.band .u32 x3 1) = 1))
/-! mean_Accepts -/
def P.mean_Accepts (φ : Nat) (a0 : Ty.api_Grammar) (a1 : (List Int)) : Option (Bool × Int) :=
  (P.mean_check a0 a1).bind fun x1 =>
  if x1 ≠ 0 then
    some (false, x1)
  else
    (P.mean_derived φ a0 a1).bind fun x2 =>
    (P.mean_ends_is φ (Ty.mean_ends.mk (Ty.api_Grammar.mk x2.g.Terms x2.g.Nons x2.g.Start a0.Rules) a1 x2.of_) (Ty.api_Sym.mk false a0.Start) 0 (a1.length : Int)).bind fun x3 =>
    some (x3, 0)
/-! compare_words -/
def P.compare_words.b0 (a0 : Int) (i1 : Int) (x1 : Int) (s1 : (Int × Int)) : Option (Int × Int) :=
  some ((Pu.imin 501 (Pu.W (s1.1 + s1.2))), (Pu.imin 501 (Pu.W (s1.2 * a0))))
def P.compare_words (a0 : Int) (a1 : Int) : Option Int :=
  (Pu.ranO (Pu.W (a1 + 1))).bind fun x2 =>
  (Pu.forP (P.compare_words.b0 a0) 0 x2 (0, 1)).bind fun y1 =>
  some y1.1
/-! compare_next -/
def P.compare_next.b0 (a1 : Int) (s1 : ((List Int) × Int)) : Option (Pu.Step ((List Int) × Int) ((List Int) × Bool)) :=
  if 0 ≤ s1.2 then
    (Pu.ix s1.1 s1.2).bind fun x2 =>
    if (Pu.W (x2 + 1)) < a1 then
      (Pu.ix s1.1 s1.2).bind fun x3 =>
      (Pu.ix s1.1 s1.2).bind fun x4 =>
      some (Pu.Step.rt ((Pu.st s1.1 s1.2 (Pu.W (x3 + 1))), true))
    else
      (Pu.ix s1.1 s1.2).bind fun x5 =>
      some (Pu.Step.nx ((Pu.st s1.1 s1.2 0), (Pu.W (s1.2 - 1))))
  else
    some (Pu.Step.br (s1.1, s1.2))
def P.compare_next (φ : Nat) (a0 : (List Int)) (a1 : Int) : Option ((List Int) × Bool) :=
  (Pu.whl (P.compare_next.b0 a1) φ (a0, (Pu.W ((a0.length : Int) - 1)))).bind fun y1 =>
  y1.cs (fun s3 =>
    some (s3.1, false)) (fun r => some r)
/-! compare_Least -/
def P.compare_Least.b1 (φ : Nat) (a0 : Ty.api_Grammar) (a1 : Ty.api_Grammar) (s16 : (List Int)) : Option (Pu.Step (List Int) (Pu.Step Unit ((List Int) × Int × Int))) :=
  (P.mean_Accepts φ a0 s16).bind fun x8 =>
  (P.mean_Accepts φ a1 s16).bind fun x9 =>
  if (x8.1 && (!x9.1)) then
    some (Pu.Step.rt (Pu.Step.rt (s16, 1, 0)))
  else
    if (x9.1 && (!x8.1)) then
      some (Pu.Step.rt (Pu.Step.rt (s16, 2, 0)))
    else
      (P.compare_next φ s16 a0.Terms).bind fun x10 =>
      if !x10.2 then
        some (Pu.Step.br x10.1)
      else
        some (Pu.Step.nx x10.1)
def P.compare_Least.b0 (φ : Nat) (a0 : Ty.api_Grammar) (a1 : Ty.api_Grammar) (i7 : Int) (x4 : Int) (s11 : Unit) : Option (Pu.Step Unit ((List Int) × Int × Int)) :=
  (Pu.mk 8 x4 x4 0).bind fun x6 =>
  (Pu.whl (P.compare_Least.b1 φ a0 a1) φ x6).bind fun y3 =>
  y3.cs (fun s18 =>
    some (Pu.Step.nx ())) (fun r => some r)
def P.compare_Least (φ : Nat) (a0 : Ty.api_Grammar) (a1 : Ty.api_Grammar) (a2 : Int) : Option ((List Int) × Int × Int) :=
  (P.gram_Check a0).bind fun x1 =>
  if x1 ≠ 0 then
    some ([], 0, x1)
  else
    (P.gram_Check a1).bind fun x2 =>
    if x2 ≠ 0 then
      some ([], 0, x2)
    else
      if (((decide (a0.Terms ≠ a1.Terms)) || (decide (a2 < 0))) || (decide (12 < a2))) then
        some ([], 0, 1)
      else
        (P.compare_words a0.Terms a2).bind fun x3 =>
        if 500 < x3 then
          some ([], 0, 2)
        else
          (Pu.ranO (Pu.W (a2 + 1))).bind fun x5 =>
          (Pu.forL (P.compare_Least.b0 φ a0 a1) 0 x5 ()).bind fun y1 =>
          y1.cs (fun s13 =>
            some ([], 0, 5)) (fun r => some r)
/-! slices_Equal_int_int -/
def P.slices_Equal_int_int.b0 (a0 : (List Int)) (a1 : (List Int)) (i1 : Int) (x1 : Int) (s1 : Unit) : Option (Pu.Step Unit Bool) :=
  (Pu.ix a0 x1).bind fun x3 =>
  (Pu.ix a1 x1).bind fun x4 =>
  if x3 ≠ x4 then
    some (Pu.Step.rt false)
  else
    some (Pu.Step.nx ())
def P.slices_Equal_int_int (a0 : (List Int)) (a1 : (List Int)) : Option Bool :=
  if (a0.length : Int) ≠ (a1.length : Int) then
    some false
  else
    (Pu.ranO (a0.length : Int)).bind fun x2 =>
    (Pu.forL (P.slices_Equal_int_int.b0 a0 a1) 0 x2 ()).bind fun y1 =>
    y1.cs (fun s3 =>
      some true) (fun r => some r)
/-! parlkeep5_CompareSides -/
def P.parlkeep5_CompareSides (φ : Nat) (a0 : (List Int)) (a1 : (List Int)) (a2 : Int) : Option Bool :=
  (P.parlmake_Grammar a0).bind fun x1 =>
  (P.parlmake_Grammar a1).bind fun x2 =>
  (P.cs_fix x1.Terms x2.Rules).bind fun x3 =>
  (P.parlkeep5_distinct x3).bind fun x4 =>
  (P.parlkeep5_plain).bind fun x5 =>
  (P.compare_Least φ x5 (Ty.api_Grammar.mk 2 1 0 []) 2).bind fun x6 =>
  (if ((decide (x6.2.2 ≠ 0)) || (decide (x6.2.1 ≠ 1))) then
      some true
    else
      (P.slices_Equal_int_int x6.1 [0]).bind fun x7 =>
      some (!x7)).bind fun y1 =>
  if y1 then
    some false
  else
    (P.parlkeep5_below a2 4).bind fun x8 =>
    (P.compare_Least φ x1 (Ty.api_Grammar.mk x1.Terms x2.Nons x2.Start x4) x8).bind fun x9 =>
    (P.compare_Least φ (Ty.api_Grammar.mk x1.Terms x2.Nons x2.Start x4) x1 x8).bind fun x10 =>
    (if decide (x9.2.2 ≠ x10.2.2) then
        some true
      else
        some ((decide (x9.2.2 ≠ 0)) && (decide (x9.2.2 ≠ 5)))).bind fun y2 =>
    if y2 then
      some false
    else
      if x9.2.2 = 5 then
        some ((decide (x9.2.1 = 0)) && (decide (x10.2.1 = 0)))
      else
        (P.mean_Accepts φ x1 x9.1).bind fun x11 =>
        (P.mean_Accepts φ (Ty.api_Grammar.mk x1.Terms x2.Nons x2.Start x4) x9.1).bind fun x12 =>
        (P.slices_Equal_int_int x9.1 x10.1).bind fun x13 =>
        some (((x13 && (decide (x9.2.1 ≠ x10.2.1))) && (!(x11.1 == x12.1))) && ((decide (x9.2.1 = 1)) == x11.1))
end Go.Proofs.Ythgdobdhdfjhfaa
