/- Plain functions, printed by wip/tools/lift.py. -/
import Derived.Test.YthgdobdhdfjhfaaTy
namespace Go.Proofs.Ythgdobdhdfjhfaa
open Go Go.Ab
/-! parlmake_Below -/
def P.parlmake_Below (a0 : Int) (a1 : Int) : Option Int :=
  (Pu.rem a0 a1).bind fun x1 =>
  (if x1 < 0 then
      some (Pu.W (x1 + a1))
    else
      some x1).bind fun y1 =>
  some y1
/-! parlmake_stream_next -/
def P.parlmake_stream_next (a0 : Ty.parlmake_stream) (a1 : Int) : Option (Ty.parlmake_stream × Int) :=
  if (a0.l.length : Int) = 0 then
    some (a0, 0)
  else
    (Pu.ix a0.l 0).bind fun x1 =>
    (Pu.sub a0.l 1 a0.l.length).bind fun x2 =>
    (P.parlmake_Below x1 a1).bind fun x3 =>
    some ((Ty.parlmake_stream.mk x2), x3)
/-! parlmake_has -/
def P.parlmake_has.b1 (a1 : Ty.api_Rule) (x1 : Ty.api_Rule) (i3 : Int) (x2 : Int) (s9 : Bool) : Option Bool :=
  (if s9 then
      (Pu.ix x1.Right x2).bind fun x4 =>
      (Pu.ix a1.Right x2).bind fun x5 =>
      some ((x4.Term == x5.Term) && (x4.N == x5.N))
    else
      some false).bind fun y4 =>
  some y4
def P.parlmake_has.b0 (a1 : Ty.api_Rule) (i1 : Int) (x1 : Ty.api_Rule) (s2 : Unit) : Option (Pu.Step Unit Bool) :=
  if ((decide (x1.Left ≠ a1.Left)) || (decide ((x1.Right.length : Int) ≠ (a1.Right.length : Int)))) then
    some (Pu.Step.nx ())
  else
    (Pu.ranO (x1.Right.length : Int)).bind fun x3 =>
    (Pu.forP (P.parlmake_has.b1 a1 x1) 0 x3 true).bind fun y3 =>
    if y3 then
      some (Pu.Step.rt true)
    else
      some (Pu.Step.nx ())
def P.parlmake_has (a0 : (List Ty.api_Rule)) (a1 : Ty.api_Rule) : Option Bool :=
  (Pu.forL (P.parlmake_has.b0 a1) 0 a0 ()).bind fun y1 =>
  y1.cs (fun s4 =>
    some false) (fun r => some r)
/-! parlmake_Grammar -/
def P.parlmake_Grammar.b1 (x1 : (Ty.parlmake_stream × Int)) (x2 : (Ty.parlmake_stream × Int)) (i10 : Int) (x9 : Int) (s29 : ((List Int) × (List Ty.api_Sym))) : Option ((List Int) × (List Ty.api_Sym)) :=
  (P.parlmake_stream_next (Ty.parlmake_stream.mk s29.1) 2).bind fun x11 =>
  (if x11.2 = 0 then
      (P.parlmake_stream_next x11.1 (Pu.W (1 + x1.2))).bind fun x12 =>
      (Pu.app 16 s29.2 [(Ty.api_Sym.mk true x12.2)]).bind fun x13 =>
      some (x12.1.l, x13)
    else
      (P.parlmake_stream_next x11.1 (Pu.W (1 + x2.2))).bind fun x14 =>
      (Pu.app 16 s29.2 [(Ty.api_Sym.mk false x14.2)]).bind fun x15 =>
      some (x14.1.l, x15)).bind fun y3 =>
  some (y3.1, y3.2)
def P.parlmake_Grammar.b0 (x1 : (Ty.parlmake_stream × Int)) (x2 : (Ty.parlmake_stream × Int)) (i6 : Int) (x5 : Int) (s18 : ((List Int) × (List Ty.api_Rule))) : Option ((List Int) × (List Ty.api_Rule)) :=
  (P.parlmake_stream_next (Ty.parlmake_stream.mk s18.1) (Pu.W (1 + x2.2))).bind fun x7 =>
  (P.parlmake_stream_next x7.1 4).bind fun x8 =>
  (Pu.ranO x8.2).bind fun x10 =>
  (Pu.forP (P.parlmake_Grammar.b1 x1 x2) 0 x10 (x8.1.l, [])).bind fun y2 =>
  (P.parlmake_has s18.2 (Ty.api_Rule.mk x7.2 y2.2)).bind fun x16 =>
  (if !x16 then
      (Pu.app 32 s18.2 [(Ty.api_Rule.mk x7.2 y2.2)]).bind fun x17 =>
      some x17
    else
      some s18.2).bind fun y4 =>
  some (y2.1, y4)
def P.parlmake_Grammar (a0 : (List Int)) : Option Ty.api_Grammar :=
  (P.parlmake_stream_next (Ty.parlmake_stream.mk a0) 3).bind fun x1 =>
  (P.parlmake_stream_next x1.1 4).bind fun x2 =>
  (P.parlmake_stream_next x2.1 (Pu.W (1 + x2.2))).bind fun x3 =>
  (P.parlmake_stream_next x3.1 8).bind fun x4 =>
  (Pu.ranO (Pu.W (1 + x4.2))).bind fun x6 =>
  (Pu.forP (P.parlmake_Grammar.b0 x1 x2) 0 x6 (x4.1.l, [])).bind fun y1 =>
  some (Ty.api_Grammar.mk (Pu.W (1 + x1.2)) (Pu.W (1 + x2.2)) x3.2 y1.2)
/-! parlkeep5_plain -/
def P.parlkeep5_plain : Option Ty.api_Grammar :=
  some (Ty.api_Grammar.mk 2 1 0 [(Ty.api_Rule.mk 0 [(Ty.api_Sym.mk true 0)]), (Ty.api_Rule.mk 0 [(Ty.api_Sym.mk true 1), (Ty.api_Sym.mk false 0)])])
/-! parlmake_tree -/
def P.parlmake_tree.b1 (rf_parlmake_tree : (Ty.api_Grammar) → (Ty.api_Sym) → (Ty.parlmake_stream) → (Int) → (Int) → Option (Ty.parlmake_stream × Int × Ty.api_Tree × Bool)) (a0 : Ty.api_Grammar) (a4 : Int) (i7 : Int) (x6 : Ty.api_Sym) (s23 : ((List Int) × Int × (List Ty.api_Tree))) : Option (Pu.Step ((List Int) × Int × (List Ty.api_Tree)) (Ty.parlmake_stream × Int × Ty.api_Tree × Bool)) :=
  (rf_parlmake_tree a0 x6 (Ty.parlmake_stream.mk s23.1) s23.2.1 (Pu.W (a4 - 1))).bind fun x7 =>
  if !x7.2.2.2 then
    some (Pu.Step.rt (x7.1, x7.2.1, (Ty.api_Tree.mk 0 0 []), false))
  else
    (Pu.app 40 s23.2.2 [x7.2.2.1]).bind fun x8 =>
    some (Pu.Step.nx (x7.1.l, x7.2.1, x8))
def P.parlmake_tree.b0 (a1 : Ty.api_Sym) (i2 : Int) (x1 : Ty.api_Rule) (s8 : (List Int)) : Option (List Int) :=
  (if x1.Left = a1.N then
      (Pu.app 8 s8 [(i2 : Int)]).bind fun x2 =>
      some x2
    else
      some s8).bind fun y2 =>
  some y2
def P.parlmake_tree : Nat → (Ty.api_Grammar) → (Ty.api_Sym) → (Ty.parlmake_stream) → (Int) → (Int) → Option (Ty.parlmake_stream × Int × Ty.api_Tree × Bool)
  | 0, _, _, _, _, _ => none
  | φ + 1, a0, a1, a2, a3, a4 =>
  if ((decide ((Pu.W (a3 - 1)) < 0)) || (decide (a4 < 0))) then
    some (a2, (Pu.W (a3 - 1)), (Ty.api_Tree.mk 0 0 []), false)
  else
    if a1.Term then
      some (a2, (Pu.W (a3 - 1)), (Ty.api_Tree.mk (-1) a1.N []), true)
    else
      (Pu.forP (P.parlmake_tree.b0 a1) 0 a0.Rules []).bind fun y1 =>
      if (y1.length : Int) = 0 then
        some (a2, (Pu.W (a3 - 1)), (Ty.api_Tree.mk 0 0 []), false)
      else
        (P.parlmake_stream_next a2 (y1.length : Int)).bind fun x3 =>
        (Pu.ix y1 x3.2).bind fun x4 =>
        (Pu.ix a0.Rules x4).bind fun x5 =>
        (Pu.forL (P.parlmake_tree.b1 (P.parlmake_tree φ) a0 a4) 0 x5.Right (x3.1.l, (Pu.W (a3 - 1)), [])).bind fun y3 =>
        y3.cs (fun s25 =>
          some ((Ty.parlmake_stream.mk s25.1), s25.2.1, (Ty.api_Tree.mk x4 0 s25.2.2), true)) (fun r => some r)
/-! parlmake_Tree -/
def P.parlmake_Tree (φ : Nat) (a0 : Ty.api_Grammar) (a1 : (List Int)) : Option (Ty.api_Tree × Bool) :=
  (P.parlmake_tree φ a0 (Ty.api_Sym.mk false a0.Start) (Ty.parlmake_stream.mk a1) 60 12).bind fun x1 =>
  some (x1.2.2.1, x1.2.2.2)
/-! tree_leaf -/
def P.tree_leaf (a0 : Ty.api_Tree) : Option Bool :=
  some (decide (a0.Rule = (-1)))
/-! tree_word -/
def P.tree_word.b0 (rf_tree_word : ((List Int)) → (Ty.api_Tree) → Option (List Int)) (i3 : Int) (x3 : Ty.api_Tree) (s6 : (List Int)) : Option (List Int) :=
  (rf_tree_word s6 x3).bind fun x4 =>
  some x4
def P.tree_word : Nat → ((List Int)) → (Ty.api_Tree) → Option (List Int)
  | 0, _, _ => none
  | φ + 1, a0, a1 =>
  (P.tree_leaf a1).bind fun x1 =>
  if x1 then
    (Pu.app 8 a0 [a1.Term]).bind fun x2 =>
    some x2
  else
    (Pu.forP (P.tree_word.b0 (P.tree_word φ)) 0 a1.Kids a0).bind fun y1 =>
    some y1
/-! tree_Word -/
def P.tree_Word (φ : Nat) (a0 : Ty.api_Tree) : Option (List Int) :=
  (P.tree_word φ [] a0).bind fun x1 =>
  some x1
/-! cmp_isNaN_int -/
def P.cmp_isNaN_int (a0 : Int) : Option Bool :=
  some (decide (a0 ≠ a0))
/-! cmp_Compare_int -/
def P.cmp_Compare_int (a0 : Int) (a1 : Int) : Option Int :=
  (P.cmp_isNaN_int a0).bind fun x1 =>
  (P.cmp_isNaN_int a1).bind fun x2 =>
  if x1 then
    if x2 then
      some 0
    else
      some (-1)
  else
    if x2 then
      some 1
    else
      if a0 < a1 then
        some (-1)
      else
        if a1 < a0 then
          some 1
        else
          some 0
/-! gram_Order -/
def P.gram_Order (a0 : Ty.api_Sym) (a1 : Ty.api_Sym) : Option Int :=
  if (a0.Term && (!a1.Term)) then
    some (-1)
  else
    if ((!a0.Term) && a1.Term) then
      some 1
    else
      (P.cmp_Compare_int a0.N a1.N).bind fun x1 =>
      some x1
/-! slices_CompareFunc_api_Sym_api_Sym_api_Sym_api_Sym__gram_Order -/
def P.slices_CompareFunc_api_Sym_api_Sym_api_Sym_api_Sym__gram_Order.b0 (a1 : (List Ty.api_Sym)) (i1 : Int) (x1 : Ty.api_Sym) (s1 : Unit) : Option (Pu.Step Unit Int) :=
  if (a1.length : Int) ≤ (i1 : Int) then
    some (Pu.Step.rt 1)
  else
    (Pu.ix a1 (i1 : Int)).bind fun x2 =>
    (P.gram_Order x1 x2).bind fun x3 =>
    if x3 ≠ 0 then
      some (Pu.Step.rt x3)
    else
      some (Pu.Step.nx ())
def P.slices_CompareFunc_api_Sym_api_Sym_api_Sym_api_Sym__gram_Order (a0 : (List Ty.api_Sym)) (a1 : (List Ty.api_Sym)) : Option Int :=
  (Pu.forL (P.slices_CompareFunc_api_Sym_api_Sym_api_Sym_api_Sym__gram_Order.b0 a1) 0 a0 ()).bind fun y1 =>
  y1.cs (fun s3 =>
    if (a0.length : Int) < (a1.length : Int) then
      some (-1)
    else
      some 0) (fun r => some r)
/-! gram_Compare -/
def P.gram_Compare (a0 : Ty.api_Rule) (a1 : Ty.api_Rule) : Option Int :=
  (P.cmp_Compare_int a0.Left a1.Left).bind fun x1 =>
  if x1 ≠ 0 then
    some x1
  else
    (P.slices_CompareFunc_api_Sym_api_Sym_api_Sym_api_Sym__gram_Order a0.Right a1.Right).bind fun x2 =>
    some x2
/-! gram_Check -/
def P.gram_Check.b2 (x1 : Ty.api_Rule) (i14 : Int) (x4 : Ty.api_Rule) (s25 : Unit) : Option (Pu.Step Unit (Pu.Step Unit Int)) :=
  (P.gram_Compare x4 x1).bind fun x5 =>
  if x5 = 0 then
    some (Pu.Step.rt (Pu.Step.rt 6))
  else
    some (Pu.Step.nx ())
def P.gram_Check.b1 (a0 : Ty.api_Grammar) (i8 : Int) (x2 : Ty.api_Sym) (s14 : Unit) : Option (Pu.Step Unit (Pu.Step Unit Int)) :=
  (if decide (x2.N < 0) then
      some true
    else
      some (x2.Term && (decide (a0.Terms ≤ x2.N)))).bind fun y5 =>
  (if y5 then
      some true
    else
      some ((!x2.Term) && (decide (a0.Nons ≤ x2.N)))).bind fun y6 =>
  if y6 then
    some (Pu.Step.rt (Pu.Step.rt 3))
  else
    some (Pu.Step.nx ())
def P.gram_Check.b0 (a0 : Ty.api_Grammar) (i6 : Int) (x1 : Ty.api_Rule) (s7 : Unit) : Option (Pu.Step Unit Int) :=
  if ((decide (x1.Left < 0)) || (decide (a0.Nons ≤ x1.Left))) then
    some (Pu.Step.rt 3)
  else
    if 4 < (x1.Right.length : Int) then
      some (Pu.Step.rt 2)
    else
      (Pu.forL (P.gram_Check.b1 a0) 0 x1.Right ()).bind fun y3 =>
      y3.cs (fun s16 =>
        (Pu.sub a0.Rules 0 (i6 : Int)).bind fun x3 =>
        (Pu.forL (P.gram_Check.b2 x1) 0 x3 ()).bind fun y7 =>
        y7.cs (fun s27 =>
          some (Pu.Step.nx ())) (fun r => some r)) (fun r => some r)
def P.gram_Check (a0 : Ty.api_Grammar) : Option Int :=
  if ((((((decide (a0.Terms < 1)) || (decide (8 < a0.Terms))) || (decide (a0.Nons < 1))) || (decide (10 < a0.Nons))) || (decide (a0.Start < 0))) || (decide (a0.Nons ≤ a0.Start))) then
    some 1
  else
    if 32 < (a0.Rules.length : Int) then
      some 2
    else
      (Pu.forL (P.gram_Check.b0 a0) 0 a0.Rules ()).bind fun y1 =>
      y1.cs (fun s9 =>
        some 0) (fun r => some r)
/-! lens_sums -/
def P.lens_sums.b2 (a1 : (List (List Bool))) (i4 : Int) (x3 : Ty.api_Sym) (i6 : Int) (x6 : Int) (s12 : (List Bool)) : Option (List Bool) :=
  (Pu.ix s12 (Pu.W ((i4 : Int) + x6))).bind fun x8 =>
  (if x8 then
      some true
    else
      some (x3.Term && (decide (x6 = 1)))).bind fun y4 =>
  (if y4 then
      some true
    else
      (if !x3.Term then
          (Pu.ix a1 x3.N).bind fun x9 =>
          (Pu.ix x9 x6).bind fun x10 =>
          some x10
        else
          some false).bind fun y6 =>
      some y6).bind fun y5 =>
  (Pu.ix s12 (Pu.W ((i4 : Int) + x6))).bind fun x11 =>
  some (Pu.st s12 (Pu.W ((i4 : Int) + x6)) y5)
def P.lens_sums.b1 (a1 : (List (List Bool))) (a2 : Int) (x3 : Ty.api_Sym) (i4 : Int) (x5 : Bool) (s9 : (List Bool)) : Option (List Bool) :=
  if !x5 then
    some s9
  else
    (Pu.ranO (Pu.W ((Pu.W (a2 + 1)) - (i4 : Int)))).bind fun x7 =>
    (Pu.forP (P.lens_sums.b2 a1 i4 x3) 0 x7 s9).bind fun y3 =>
    some y3
def P.lens_sums.b0 (a1 : (List (List Bool))) (a2 : Int) (i2 : Int) (x3 : Ty.api_Sym) (s3 : (List Bool)) : Option (List Bool) :=
  (Pu.mk 1 (Pu.W (a2 + 1)) (Pu.W (a2 + 1)) false).bind fun x4 =>
  (Pu.forP (P.lens_sums.b1 a1 a2 x3) 0 s3 x4).bind fun y2 =>
  some y2
def P.lens_sums (a0 : (List Ty.api_Sym)) (a1 : (List (List Bool))) (a2 : Int) : Option (List Bool) :=
  (Pu.mk 1 (Pu.W (a2 + 1)) (Pu.W (a2 + 1)) false).bind fun x1 =>
  (Pu.ix x1 0).bind fun x2 =>
  (Pu.forP (P.lens_sums.b0 a1 a2) 0 a0 (Pu.st x1 0 true)).bind fun y1 =>
  some y1
/-! lens_Set -/
def P.lens_Set.b3 (x8 : Ty.api_Rule) (i9 : Int) (x10 : Bool) (s23 : ((List (List Bool)) × Bool)) : Option ((List (List Bool)) × Bool) :=
  (if x10 then
      (Pu.ix s23.1 x8.Left).bind fun x11 =>
      (Pu.ix x11 (i9 : Int)).bind fun x12 =>
      some (!x12)
    else
      some false).bind fun y6 =>
  (if y6 then
      (Pu.ix s23.1 x8.Left).bind fun x13 =>
      (Pu.ix x13 (i9 : Int)).bind fun x14 =>
      some ((Pu.st s23.1 x8.Left (Pu.st x13 (i9 : Int) true)), true)
    else
      some (s23.1, s23.2)).bind fun y7 =>
  some (y7.1, y7.2)
def P.lens_Set.b2 (a1 : Int) (i6 : Int) (x8 : Ty.api_Rule) (s16 : ((List (List Bool)) × Bool)) : Option ((List (List Bool)) × Bool) :=
  (P.lens_sums x8.Right s16.1 a1).bind fun x9 =>
  (Pu.forP (P.lens_Set.b3 x8) 0 x9 (s16.1, s16.2)).bind fun y5 =>
  some (y5.1, y5.2)
def P.lens_Set.b1 (a0 : Ty.api_Grammar) (a1 : Int) (s12 : ((List (List Bool)) × Bool)) : Option (Pu.Step ((List (List Bool)) × Bool) Unit) :=
  if s12.2 then
    (Pu.forP (P.lens_Set.b2 a1) 0 a0.Rules (s12.1, false)).bind fun y4 =>
    some (Pu.Step.nx (y4.1, y4.2))
  else
    some (Pu.Step.br (s12.1, s12.2))
def P.lens_Set.b0 (a1 : Int) (i4 : Int) (x3 : Int) (s6 : (List (List Bool))) : Option (List (List Bool)) :=
  (Pu.mk 1 (Pu.W (a1 + 1)) (Pu.W (a1 + 1)) false).bind fun x5 =>
  (Pu.ix s6 x3).bind fun x6 =>
  some (Pu.st s6 x3 x5)
def P.lens_Set (φ : Nat) (a0 : Ty.api_Grammar) (a1 : Int) : Option ((List Bool) × Int) :=
  (P.gram_Check a0).bind fun x1 =>
  if x1 ≠ 0 then
    some ([], x1)
  else
    if ((decide (a1 < 0)) || (decide (200 < a1))) then
      some ([], 1)
    else
      (Pu.mk 24 a0.Nons a0.Nons []).bind fun x2 =>
      (Pu.ranO (x2.length : Int)).bind fun x4 =>
      (Pu.forP (P.lens_Set.b0 a1) 0 x4 x2).bind fun y1 =>
      (Pu.whl (P.lens_Set.b1 a0 a1) φ (y1, true)).bind fun y2 =>
      y2.cs (fun s14 =>
        (Pu.ix s14.1 a0.Start).bind fun x15 =>
        some (x15, 0)) (fun r => none)
/-! lens_total -/
def P.lens_total.b0 (a1 : (List Int)) (i1 : Int) (x1 : Ty.api_Sym) (s1 : Int) : Option (Pu.Step Int Int) :=
  ((if x1.Term then
        some (Pu.Fin.out (Pu.W (s1 + 1)))
      else
        (Pu.ix a1 x1.N).bind fun x2 =>
        if x2 < 0 then
          some (Pu.Fin.rt (Pu.Step.rt (-1)))
        else
          (Pu.ix a1 x1.N).bind fun x3 =>
          some (Pu.Fin.out (Pu.W (s1 + x3))) : Option (Pu.Fin Int (Pu.Step Int Int)))).bind fun y3 =>
  y3.cs (fun y4 =>
    some (Pu.Step.nx y4)) (fun r => some r)
def P.lens_total (a0 : (List Ty.api_Sym)) (a1 : (List Int)) : Option Int :=
  (Pu.forL (P.lens_total.b0 a1) 0 a0 0).bind fun y1 =>
  y1.cs (fun s3 =>
    some s3) (fun r => some r)
/-! lens_Greatest_1 -/
def P.lens_Greatest_1.b0 (a0 : Int) (i1 : Int) (x1 : Ty.api_Rule) (s1 : ((List Int) × Bool)) : Option ((List Int) × Bool) :=
  (P.lens_total x1.Right s1.1).bind fun x2 =>
  (if decide (0 ≤ x2) then
      (Pu.ix s1.1 x1.Left).bind fun x3 =>
      some (decide (x3 < (Pu.imin x2 a0)))
    else
      some false).bind fun y2 =>
  (if y2 then
      (Pu.ix s1.1 x1.Left).bind fun x4 =>
      some ((Pu.st s1.1 x1.Left (Pu.imin x2 a0)), true)
    else
      some (s1.1, s1.2)).bind fun y3 =>
  some (y3.1, y3.2)
def P.lens_Greatest_1 (a0 : Int) (a1 : Ty.api_Grammar) (a2 : (List Int)) : Option ((List Int) × Bool) :=
  (Pu.forP (P.lens_Greatest_1.b0 a0) 0 a1.Rules (a2, false)).bind fun y1 =>
  some (y1.1, y1.2)
/-! lens_square -/
def P.lens_square.b0 (a0 : Int) (i1 : Int) (x2 : Int) (s2 : (List (List Bool))) : Option (List (List Bool)) :=
  (Pu.mk 1 a0 a0 false).bind fun x4 =>
  (Pu.ix s2 x2).bind fun x5 =>
  some (Pu.st s2 x2 x4)
def P.lens_square (a0 : Int) : Option (List (List Bool)) :=
  (Pu.mk 24 a0 a0 []).bind fun x1 =>
  (Pu.ranO (x1.length : Int)).bind fun x3 =>
  (Pu.forP (P.lens_square.b0 a0) 0 x3 x1).bind fun y1 =>
  some y1
/-! lens_endless -/
def P.lens_endless.b7 (a0 : Ty.api_Grammar) (x28 : Int) (y1 : ((List (List Bool)) × (List (List Bool)))) (y7 : (List (List Bool))) (i21 : Int) (x30 : Int) (s54 : Unit) : Option (Pu.Step Unit (Pu.Step Unit Bool)) :=
  (Pu.ix y1.2 x28).bind fun x32 =>
  (Pu.ix x32 x30).bind fun x33 =>
  (if x33 then
      (if decide (x28 = x30) then
          some true
        else
          (Pu.ix y7 x30).bind fun x34 =>
          (Pu.ix x34 x28).bind fun x35 =>
          some x35).bind fun y17 =>
      some y17
    else
      some false).bind fun y16 =>
  (if y16 then
      (if decide (x28 = a0.Start) then
          some true
        else
          (Pu.ix y7 a0.Start).bind fun x36 =>
          (Pu.ix x36 x28).bind fun x37 =>
          some x37).bind fun y19 =>
      some y19
    else
      some false).bind fun y18 =>
  if y18 then
    some (Pu.Step.rt (Pu.Step.rt true))
  else
    some (Pu.Step.nx ())
def P.lens_endless.b6 (a0 : Ty.api_Grammar) (y1 : ((List (List Bool)) × (List (List Bool)))) (y7 : (List (List Bool))) (i20 : Int) (x28 : Int) (s50 : Unit) : Option (Pu.Step Unit Bool) :=
  (Pu.ranO (y7.length : Int)).bind fun x31 =>
  (Pu.forL (P.lens_endless.b7 a0 x28 y1 y7) 0 x31 ()).bind fun y14 =>
  y14.cs (fun s56 =>
    some (Pu.Step.nx ())) (fun r => some r)
def P.lens_endless.b5 (x14 : Int) (x16 : Int) (i17 : Int) (x18 : Int) (s40 : (List (List Bool))) : Option (List (List Bool)) :=
  (Pu.ix s40 x16).bind fun x20 =>
  (Pu.ix s40 x16).bind fun x21 =>
  (Pu.ix x21 x18).bind fun x22 =>
  (if x22 then
      some true
    else
      (Pu.ix s40 x16).bind fun x23 =>
      (Pu.ix x23 x14).bind fun x24 =>
      (if x24 then
          (Pu.ix s40 x14).bind fun x25 =>
          (Pu.ix x25 x18).bind fun x26 =>
          some x26
        else
          some false).bind fun y11 =>
      some y11).bind fun y10 =>
  (Pu.ix x20 x18).bind fun x27 =>
  some (Pu.st s40 x16 (Pu.st x20 x18 y10))
def P.lens_endless.b4 (x14 : Int) (i16 : Int) (x16 : Int) (s37 : (List (List Bool))) : Option (List (List Bool)) :=
  (Pu.ranO (s37.length : Int)).bind fun x19 =>
  (Pu.forP (P.lens_endless.b5 x14 x16) 0 x19 s37).bind fun y9 =>
  some y9
def P.lens_endless.b3 (i15 : Int) (x14 : Int) (s34 : (List (List Bool))) : Option (List (List Bool)) :=
  (Pu.ranO (s34.length : Int)).bind fun x17 =>
  (Pu.forP (P.lens_endless.b4 x14) 0 x17 s34).bind fun y8 =>
  some y8
def P.lens_endless.b2 (a1 : (List Int)) (i7 : Int) (x3 : Ty.api_Rule) (x5 : Ty.api_Sym) (i10 : Int) (x8 : Ty.api_Sym) (s21 : (List (List Bool))) : Option (List (List Bool)) :=
  (Pu.ix s21 x3.Left).bind fun x9 =>
  (Pu.ix s21 x3.Left).bind fun x10 =>
  (Pu.ix x10 x5.N).bind fun x11 =>
  (if x11 then
      some true
    else
      (if decide ((i10 : Int) ≠ (i7 : Int)) then
          (if x8.Term then
              some true
            else
              (Pu.ix a1 x8.N).bind fun x12 =>
              some (decide (0 < x12))).bind fun y6 =>
          some y6
        else
          some false).bind fun y5 =>
      some y5).bind fun y4 =>
  (Pu.ix x9 x5.N).bind fun x13 =>
  some (Pu.st s21 x3.Left (Pu.st x9 x5.N y4))
def P.lens_endless.b1 (a1 : (List Int)) (x3 : Ty.api_Rule) (i7 : Int) (x5 : Ty.api_Sym) (s14 : ((List (List Bool)) × (List (List Bool)))) : Option ((List (List Bool)) × (List (List Bool))) :=
  if x5.Term then
    some (s14.1, s14.2)
  else
    (Pu.ix s14.1 x3.Left).bind fun x6 =>
    (Pu.ix x6 x5.N).bind fun x7 =>
    (Pu.forP (P.lens_endless.b2 a1 i7 x3 x5) 0 x3.Right s14.2).bind fun y3 =>
    some ((Pu.st s14.1 x3.Left (Pu.st x6 x5.N true)), y3)
def P.lens_endless.b0 (a1 : (List Int)) (i4 : Int) (x3 : Ty.api_Rule) (s7 : ((List (List Bool)) × (List (List Bool)))) : Option ((List (List Bool)) × (List (List Bool))) :=
  (P.lens_total x3.Right a1).bind fun x4 =>
  if x4 < 0 then
    some (s7.1, s7.2)
  else
    (Pu.forP (P.lens_endless.b1 a1 x3) 0 x3.Right (s7.1, s7.2)).bind fun y2 =>
    some (y2.1, y2.2)
def P.lens_endless (a0 : Ty.api_Grammar) (a1 : (List Int)) : Option Bool :=
  (P.lens_square a0.Nons).bind fun x1 =>
  (P.lens_square a0.Nons).bind fun x2 =>
  (Pu.forP (P.lens_endless.b0 a1) 0 a0.Rules (x1, x2)).bind fun y1 =>
  (Pu.ranO (y1.1.length : Int)).bind fun x15 =>
  (Pu.forP (P.lens_endless.b3) 0 x15 y1.1).bind fun y7 =>
  (Pu.ranO (y7.length : Int)).bind fun x29 =>
  (Pu.forL (P.lens_endless.b6 a0 y1 y7) 0 x29 ()).bind fun y12 =>
  y12.cs (fun s52 =>
    some false) (fun r => some r)
/-! lens_Greatest -/
def P.lens_Greatest.b2 (a0 : Ty.api_Grammar) (i9 : Int) (x9 : Int) (s20 : (List Int)) : Option (List Int) :=
  (P.lens_Greatest_1 1099511627776 a0 s20).bind fun x11 =>
  some x11.1
def P.lens_Greatest.b1 (a0 : Ty.api_Grammar) (s12 : (List Int)) : Option (Pu.Step (List Int) Unit) :=
  (P.lens_Greatest_1 1 a0 s12).bind fun x7 =>
  if x7.2 then
    some (Pu.Step.nx x7.1)
  else
    some (Pu.Step.br x7.1)
def P.lens_Greatest.b0 (i4 : Int) (x3 : Int) (s7 : (List Int)) : Option (List Int) :=
  (Pu.ix s7 x3).bind fun x5 =>
  some (Pu.st s7 x3 (-1))
def P.lens_Greatest (φ : Nat) (a0 : Ty.api_Grammar) : Option (Int × Int) :=
  (P.gram_Check a0).bind fun x1 =>
  if x1 ≠ 0 then
    some (0, x1)
  else
    (Pu.mk 8 a0.Nons a0.Nons 0).bind fun x2 =>
    (Pu.ranO (x2.length : Int)).bind fun x4 =>
    (Pu.forP (P.lens_Greatest.b0) 0 x4 x2).bind fun y1 =>
    (Pu.whl (P.lens_Greatest.b1 a0) φ y1).bind fun y2 =>
    y2.cs (fun s14 =>
      (P.lens_endless a0 s14).bind fun x8 =>
      if x8 then
        some ((-2), 0)
      else
        (Pu.ranO (Pu.W (a0.Nons + 1))).bind fun x10 =>
        (Pu.forP (P.lens_Greatest.b2 a0) 0 x10 s14).bind fun y4 =>
        (Pu.ix y4 a0.Start).bind fun x12 =>
        some (x12, 0)) (fun r => none)
/-! slices_Index_bool_bool -/
def P.slices_Index_bool_bool.b0 (a0 : (List Bool)) (a1 : Bool) (i1 : Int) (x1 : Int) (s1 : Unit) : Option (Pu.Step Unit Int) :=
  (Pu.ix a0 x1).bind fun x3 =>
  if (a1 == x3) then
    some (Pu.Step.rt x1)
  else
    some (Pu.Step.nx ())
def P.slices_Index_bool_bool (a0 : (List Bool)) (a1 : Bool) : Option Int :=
  (Pu.ranO (a0.length : Int)).bind fun x2 =>
  (Pu.forL (P.slices_Index_bool_bool.b0 a0 a1) 0 x2 ()).bind fun y1 =>
  y1.cs (fun s3 =>
    some (-1)) (fun r => some r)
/-! slices_Contains_bool_bool -/
def P.slices_Contains_bool_bool (a0 : (List Bool)) (a1 : Bool) : Option Bool :=
  (P.slices_Index_bool_bool a0 a1).bind fun x1 =>
  some (decide (0 ≤ x1))
/-! parlkeep5_LensWord -/
def P.parlkeep5_LensWord (φ : Nat) (a0 : (List Int)) (a1 : (List Int)) : Option Bool :=
  (P.parlmake_Grammar a0).bind fun x1 =>
  (P.parlkeep5_plain).bind fun x2 =>
  (P.lens_Greatest φ x2).bind fun x3 =>
  if ((decide (x3.2 ≠ 0)) || (decide (x3.1 ≠ (-2)))) then
    some false
  else
    (P.lens_Greatest φ x1).bind fun x4 =>
    (P.lens_Set φ x1 200).bind fun x5 =>
    if (((decide (x4.2 ≠ 0)) || (decide (x5.2 ≠ 0))) || (decide ((x5.1.length : Int) ≠ 201))) then
      some false
    else
      (if ((decide (0 ≤ x4.1)) && (decide (x4.1 ≤ 200))) then
          (Pu.ix x5.1 x4.1).bind fun x6 =>
          (if !x6 then
              some true
            else
              (Pu.sub x5.1 (Pu.W (x4.1 + 1)) x5.1.length).bind fun x7 =>
              (P.slices_Contains_bool_bool x7 true).bind fun x8 =>
              some x8).bind fun y2 =>
          some y2
        else
          some false).bind fun y1 =>
      (if y1 then
          some true
        else
          (if decide (x4.1 = (-1)) then
              (P.slices_Contains_bool_bool x5.1 true).bind fun x9 =>
              some x9
            else
              some false).bind fun y4 =>
          some y4).bind fun y3 =>
      if y3 then
        some false
      else
        (P.parlmake_Tree φ x1 a1).bind fun x10 =>
        if !x10.2 then
          some true
        else
          (P.tree_Word φ x10.1).bind fun x11 =>
          (if ((decide (x4.1 = (-2))) || (decide ((x11.length : Int) ≤ x4.1))) then
              (if decide (200 < (x11.length : Int)) then
                  some true
                else
                  (Pu.ix x5.1 (x11.length : Int)).bind fun x12 =>
                  some x12).bind fun y6 =>
              some y6
            else
              some false).bind fun y5 =>
          some y5
end Go.Proofs.Ythgdobdhdfjhfaa
