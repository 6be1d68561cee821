/- Plain functions, printed by wip/tools/lift.py. -/
import Derived.Test.YthgdobdhdfjhfaaTy
namespace Go.Proofs.Ythgdobdhdfjhfaa
open Go Go.Ab
/-! parlmake_Below -/
def P.parlmake_Below (a0 : Int) (a1 : Int) : Option Int :=
  (Pu.rem a0 a1).bind fun x1 =>
  (if x1 < 0 then
      some (Pu.W (x1 + a1))
    else
      some x1).bind fun y1 =>
  some y1
/-! parlmake_stream_next -/
def P.parlmake_stream_next (a0 : Ty.parlmake_stream) (a1 : Int) : Option (Ty.parlmake_stream × Int) :=
  if (a0.l.length : Int) = 0 then
    some (a0, 0)
  else
    (Pu.ix a0.l 0).bind fun x1 =>
    (Pu.sub a0.l 1 a0.l.length).bind fun x2 =>
    (P.parlmake_Below x1 a1).bind fun x3 =>
    some ((Ty.parlmake_stream.mk x2), x3)
/-! parlmake_has -/
def P.parlmake_has.b1 (a1 : Ty.api_Rule) (x1 : Ty.api_Rule) (i3 : Int) (x2 : Int) (s9 : Bool) : Option Bool :=
  (if s9 then
      (Pu.ix x1.Right x2).bind fun x4 =>
      (Pu.ix a1.Right x2).bind fun x5 =>
      some ((x4.Term == x5.Term) && (x4.N == x5.N))
    else
      some false).bind fun y4 =>
  some y4
def P.parlmake_has.b0 (a1 : Ty.api_Rule) (i1 : Int) (x1 : Ty.api_Rule) (s2 : Unit) : Option (Pu.Step Unit Bool) :=
  if ((decide (x1.Left ≠ a1.Left)) || (decide ((x1.Right.length : Int) ≠ (a1.Right.length : Int)))) then
    some (Pu.Step.nx ())
  else
    (Pu.ranO (x1.Right.length : Int)).bind fun x3 =>
    (Pu.forP (P.parlmake_has.b1 a1 x1) 0 x3 true).bind fun y3 =>
    if y3 then
      some (Pu.Step.rt true)
    else
      some (Pu.Step.nx ())
def P.parlmake_has (a0 : (List Ty.api_Rule)) (a1 : Ty.api_Rule) : Option Bool :=
  (Pu.forL (P.parlmake_has.b0 a1) 0 a0 ()).bind fun y1 =>
  y1.cs (fun s4 =>
    some false) (fun r => some r)
/-! parlmake_Grammar -/
def P.parlmake_Grammar.b1 (x1 : (Ty.parlmake_stream × Int)) (x2 : (Ty.parlmake_stream × Int)) (i10 : Int) (x9 : Int) (s29 : ((List Int) × (List Ty.api_Sym))) : Option ((List Int) × (List Ty.api_Sym)) :=
  (P.parlmake_stream_next (Ty.parlmake_stream.mk s29.1) 2).bind fun x11 =>
  (if x11.2 = 0 then
      (P.parlmake_stream_next x11.1 (Pu.W (1 + x1.2))).bind fun x12 =>
      (Pu.app 16 s29.2 [(Ty.api_Sym.mk true x12.2)]).bind fun x13 =>
      some (x12.1.l, x13)
    else
      (P.parlmake_stream_next x11.1 (Pu.W (1 + x2.2))).bind fun x14 =>
      (Pu.app 16 s29.2 [(Ty.api_Sym.mk false x14.2)]).bind fun x15 =>
      some (x14.1.l, x15)).bind fun y3 =>
  some (y3.1, y3.2)
def P.parlmake_Grammar.b0 (x1 : (Ty.parlmake_stream × Int)) (x2 : (Ty.parlmake_stream × Int)) (i6 : Int) (x5 : Int) (s18 : ((List Int) × (List Ty.api_Rule))) : Option ((List Int) × (List Ty.api_Rule)) :=
  (P.parlmake_stream_next (Ty.parlmake_stream.mk s18.1) (Pu.W (1 + x2.2))).bind fun x7 =>
  (P.parlmake_stream_next x7.1 4).bind fun x8 =>
  (Pu.ranO x8.2).bind fun x10 =>
  (Pu.forP (P.parlmake_Grammar.b1 x1 x2) 0 x10 (x8.1.l, [])).bind fun y2 =>
  (P.parlmake_has s18.2 (Ty.api_Rule.mk x7.2 y2.2)).bind fun x16 =>
  (if !x16 then
      (Pu.app 32 s18.2 [(Ty.api_Rule.mk x7.2 y2.2)]).bind fun x17 =>
      some x17
    else
      some s18.2).bind fun y4 =>
  some (y2.1, y4)
def P.parlmake_Grammar (a0 : (List Int)) : Option Ty.api_Grammar :=
  (P.parlmake_stream_next (Ty.parlmake_stream.mk a0) 3).bind fun x1 =>
  (P.parlmake_stream_next x1.1 4).bind fun x2 =>
  (P.parlmake_stream_next x2.1 (Pu.W (1 + x2.2))).bind fun x3 =>
  (P.parlmake_stream_next x3.1 8).bind fun x4 =>
  (Pu.ranO (Pu.W (1 + x4.2))).bind fun x6 =>
  (Pu.forP (P.parlmake_Grammar.b0 x1 x2) 0 x6 (x4.1.l, [])).bind fun y1 =>
  some (Ty.api_Grammar.mk (Pu.W (1 + x1.2)) (Pu.W (1 + x2.2)) x3.2 y1.2)
/-! tree_leaf -/
def P.tree_leaf (a0 : Ty.api_Tree) : Option Bool :=
  some (decide (a0.Rule = (-1)))
/-! tree_Size -/
def P.tree_Size.b0 (rf_tree_Size : (Ty.api_Tree) → Option Int) (i2 : Int) (x2 : Ty.api_Tree) (s4 : Int) : Option Int :=
  (rf_tree_Size x2).bind fun x3 =>
  some (Pu.W (s4 + x3))
def P.tree_Size : Nat → (Ty.api_Tree) → Option Int
  | 0, _ => none
  | φ + 1, a0 =>
  (P.tree_leaf a0).bind fun x1 =>
  if x1 then
    some 1
  else
    (Pu.forP (P.tree_Size.b0 (P.tree_Size φ)) 0 a0.Kids 1).bind fun y1 =>
    some y1
/-! cmp_isNaN_int -/
def P.cmp_isNaN_int (a0 : Int) : Option Bool :=
  some (decide (a0 ≠ a0))
/-! cmp_Compare_int -/
def P.cmp_Compare_int (a0 : Int) (a1 : Int) : Option Int :=
  (P.cmp_isNaN_int a0).bind fun x1 =>
  (P.cmp_isNaN_int a1).bind fun x2 =>
  if x1 then
    if x2 then
      some 0
    else
      some (-1)
  else
    if x2 then
      some 1
    else
      if a0 < a1 then
        some (-1)
      else
        if a1 < a0 then
          some 1
        else
          some 0
/-! gram_Order -/
def P.gram_Order (a0 : Ty.api_Sym) (a1 : Ty.api_Sym) : Option Int :=
  if (a0.Term && (!a1.Term)) then
    some (-1)
  else
    if ((!a0.Term) && a1.Term) then
      some 1
    else
      (P.cmp_Compare_int a0.N a1.N).bind fun x1 =>
      some x1
/-! slices_CompareFunc_api_Sym_api_Sym_api_Sym_api_Sym__gram_Order -/
def P.slices_CompareFunc_api_Sym_api_Sym_api_Sym_api_Sym__gram_Order.b0 (a1 : (List Ty.api_Sym)) (i1 : Int) (x1 : Ty.api_Sym) (s1 : Unit) : Option (Pu.Step Unit Int) :=
  if (a1.length : Int) ≤ (i1 : Int) then
    some (Pu.Step.rt 1)
  else
    (Pu.ix a1 (i1 : Int)).bind fun x2 =>
    (P.gram_Order x1 x2).bind fun x3 =>
    if x3 ≠ 0 then
      some (Pu.Step.rt x3)
    else
      some (Pu.Step.nx ())
def P.slices_CompareFunc_api_Sym_api_Sym_api_Sym_api_Sym__gram_Order (a0 : (List Ty.api_Sym)) (a1 : (List Ty.api_Sym)) : Option Int :=
  (Pu.forL (P.slices_CompareFunc_api_Sym_api_Sym_api_Sym_api_Sym__gram_Order.b0 a1) 0 a0 ()).bind fun y1 =>
  y1.cs (fun s3 =>
    if (a0.length : Int) < (a1.length : Int) then
      some (-1)
    else
      some 0) (fun r => some r)
/-! gram_Compare -/
def P.gram_Compare (a0 : Ty.api_Rule) (a1 : Ty.api_Rule) : Option Int :=
  (P.cmp_Compare_int a0.Left a1.Left).bind fun x1 =>
  if x1 ≠ 0 then
    some x1
  else
    (P.slices_CompareFunc_api_Sym_api_Sym_api_Sym_api_Sym__gram_Order a0.Right a1.Right).bind fun x2 =>
    some x2
/-! gram_Check -/
def P.gram_Check.b2 (x1 : Ty.api_Rule) (i14 : Int) (x4 : Ty.api_Rule) (s25 : Unit) : Option (Pu.Step Unit (Pu.Step Unit Int)) :=
  (P.gram_Compare x4 x1).bind fun x5 =>
  if x5 = 0 then
    some (Pu.Step.rt (Pu.Step.rt 6))
  else
    some (Pu.Step.nx ())
def P.gram_Check.b1 (a0 : Ty.api_Grammar) (i8 : Int) (x2 : Ty.api_Sym) (s14 : Unit) : Option (Pu.Step Unit (Pu.Step Unit Int)) :=
  (if decide (x2.N < 0) then
      some true
    else
      some (x2.Term && (decide (a0.Terms ≤ x2.N)))).bind fun y5 =>
  (if y5 then
      some true
    else
      some ((!x2.Term) && (decide (a0.Nons ≤ x2.N)))).bind fun y6 =>
  if y6 then
    some (Pu.Step.rt (Pu.Step.rt 3))
  else
    some (Pu.Step.nx ())
def P.gram_Check.b0 (a0 : Ty.api_Grammar) (i6 : Int) (x1 : Ty.api_Rule) (s7 : Unit) : Option (Pu.Step Unit Int) :=
  if ((decide (x1.Left < 0)) || (decide (a0.Nons ≤ x1.Left))) then
    some (Pu.Step.rt 3)
  else
    if 4 < (x1.Right.length : Int) then
      some (Pu.Step.rt 2)
    else
      (Pu.forL (P.gram_Check.b1 a0) 0 x1.Right ()).bind fun y3 =>
      y3.cs (fun s16 =>
        (Pu.sub a0.Rules 0 (i6 : Int)).bind fun x3 =>
        (Pu.forL (P.gram_Check.b2 x1) 0 x3 ()).bind fun y7 =>
        y7.cs (fun s27 =>
          some (Pu.Step.nx ())) (fun r => some r)) (fun r => some r)
def P.gram_Check (a0 : Ty.api_Grammar) : Option Int :=
  if ((((((decide (a0.Terms < 1)) || (decide (8 < a0.Terms))) || (decide (a0.Nons < 1))) || (decide (10 < a0.Nons))) || (decide (a0.Start < 0))) || (decide (a0.Nons ≤ a0.Start))) then
    some 1
  else
    if 32 < (a0.Rules.length : Int) then
      some 2
    else
      (Pu.forL (P.gram_Check.b0 a0) 0 a0.Rules ()).bind fun y1 =>
      y1.cs (fun s9 =>
        some 0) (fun r => some r)
/-! tree_symbol -/
def P.tree_symbol (a0 : Ty.api_Grammar) (a1 : Ty.api_Tree) : Option (Ty.api_Sym × Bool) :=
  (P.tree_leaf a1).bind fun x1 =>
  if x1 then
    (if decide (0 ≤ a1.Term) then
        if decide (a1.Term < a0.Terms) then
          some (decide ((a1.Kids.length : Int) = 0))
        else
          some false
      else
        some false).bind fun y1 =>
    some ((Ty.api_Sym.mk true a1.Term), y1)
  else
    if ((decide (a1.Rule < 0)) || (decide ((a0.Rules.length : Int) ≤ a1.Rule))) then
      some ((Ty.api_Sym.mk false 0), false)
    else
      (Pu.ix a0.Rules a1.Rule).bind fun x2 =>
      some ((Ty.api_Sym.mk false x2.Left), decide (a1.Term = 0))
/-! tree_valid -/
def P.tree_valid.b0 (rf_tree_valid : (Ty.api_Grammar) → (Ty.api_Tree) → Option Bool) (a0 : Ty.api_Grammar) (x3 : Ty.api_Rule) (i6 : Int) (x4 : Ty.api_Tree) (s10 : Unit) : Option (Pu.Step Unit Bool) :=
  (P.tree_symbol a0 x4).bind fun x5 =>
  (if !x5.2 then
      some true
    else
      (Pu.ix x3.Right (i6 : Int)).bind fun x6 =>
      some (!((x5.1.Term == x6.Term) && (x5.1.N == x6.N)))).bind fun y4 =>
  (if y4 then
      some true
    else
      (rf_tree_valid a0 x4).bind fun x7 =>
      some (!x7)).bind fun y5 =>
  if y5 then
    some (Pu.Step.rt false)
  else
    some (Pu.Step.nx ())
def P.tree_valid : Nat → (Ty.api_Grammar) → (Ty.api_Tree) → Option Bool
  | 0, _, _ => none
  | φ + 1, a0, a1 =>
  (P.tree_symbol a0 a1).bind fun x1 =>
  (if !x1.2 then
      some true
    else
      (P.tree_leaf a1).bind fun x2 =>
      some x2).bind fun y1 =>
  if y1 then
    some x1.2
  else
    (Pu.ix a0.Rules a1.Rule).bind fun x3 =>
    if (a1.Kids.length : Int) ≠ (x3.Right.length : Int) then
      some false
    else
      (Pu.forL (P.tree_valid.b0 (P.tree_valid φ) a0 x3) 0 a1.Kids ()).bind fun y2 =>
      y2.cs (fun s12 =>
        some true) (fun r => some r)
/-! tree_Check -/
def P.tree_Check (φ : Nat) (a0 : Ty.api_Grammar) (a1 : Ty.api_Tree) : Option Int :=
  (P.gram_Check a0).bind fun x1 =>
  if x1 ≠ 0 then
    some x1
  else
    (P.tree_Size φ a1).bind fun x2 =>
    if 5000 < x2 then
      some 2
    else
      (P.tree_valid φ a0 a1).bind fun x3 =>
      if !x3 then
        some 3
      else
        some 0
/-! slices_Clone_api_Tree_api_Tree -/
def P.slices_Clone_api_Tree_api_Tree (a0 : (List Ty.api_Tree)) : Option (List Ty.api_Tree) :=
  (Pu.app 40 [] a0).bind fun x1 =>
  some x1
/-! tree_Clone -/
def P.tree_Clone.b0 (rf_tree_Clone : (Ty.api_Tree) → Option Ty.api_Tree) (i3 : Int) (x2 : Int) (s6 : (List Ty.api_Tree)) : Option (List Ty.api_Tree) :=
  (Pu.ix s6 x2).bind fun x4 =>
  (rf_tree_Clone x4).bind fun x5 =>
  (Pu.ix s6 x2).bind fun x6 =>
  some (Pu.st s6 x2 x5)
def P.tree_Clone : Nat → (Ty.api_Tree) → Option Ty.api_Tree
  | 0, _ => none
  | φ + 1, a0 =>
  (P.slices_Clone_api_Tree_api_Tree a0.Kids).bind fun x1 =>
  (Pu.ranO (x1.length : Int)).bind fun x3 =>
  (Pu.forP (P.tree_Clone.b0 (P.tree_Clone φ)) 0 x3 x1).bind fun y1 =>
  some (Ty.api_Tree.mk a0.Rule a0.Term y1)
/-! shrink_below -/
def P.shrink_below.b0 (rf_shrink_below : (Ty.api_Grammar) → (Ty.api_Tree) → (Int) → Option (List Ty.api_Tree)) (a0 : Ty.api_Grammar) (a2 : Int) (i4 : Int) (x4 : Ty.api_Tree) (s11 : (List Ty.api_Tree)) : Option (List Ty.api_Tree) :=
  (rf_shrink_below a0 x4 a2).bind fun x5 =>
  (Pu.app 40 s11 x5).bind fun x6 =>
  some x6
def P.shrink_below : Nat → (Ty.api_Grammar) → (Ty.api_Tree) → (Int) → Option (List Ty.api_Tree)
  | 0, _, _, _ => none
  | φ + 1, a0, a1, a2 =>
  if a1.Rule < 0 then
    some []
  else
    (Pu.ix a0.Rules a1.Rule).bind fun x1 =>
    (if x1.Left = a2 then
        (P.tree_Clone φ a1).bind fun x2 =>
        (Pu.app 40 [] [x2]).bind fun x3 =>
        some x3
      else
        some []).bind fun y1 =>
    (Pu.forP (P.shrink_below.b0 (P.shrink_below φ) a0 a2) 0 a1.Kids y1).bind fun y2 =>
    some y2
/-! shrink_Smaller -/
def P.shrink_Smaller.b2 (φ : Nat) (a1 : Ty.api_Tree) (i7 : Int) (i10 : Int) (x9 : Ty.api_Tree) (s27 : (List Ty.api_Tree)) : Option (List Ty.api_Tree) :=
  (P.tree_Clone φ a1).bind fun x10 =>
  (Pu.ix x10.Kids (i7 : Int)).bind fun x11 =>
  (Pu.app 40 s27 [(Ty.api_Tree.mk x10.Rule x10.Term (Pu.st x10.Kids (i7 : Int) x9))]).bind fun x12 =>
  some x12
def P.shrink_Smaller.b1 (rf_shrink_Smaller : (Ty.api_Grammar) → (Ty.api_Tree) → Option (List Ty.api_Tree)) (φ : Nat) (a0 : Ty.api_Grammar) (a1 : Ty.api_Tree) (i7 : Int) (x7 : Ty.api_Tree) (s20 : (List Ty.api_Tree)) : Option (List Ty.api_Tree) :=
  (rf_shrink_Smaller a0 x7).bind fun x8 =>
  (Pu.forP (P.shrink_Smaller.b2 φ a1 i7) 0 x8 s20).bind fun y4 =>
  some y4
def P.shrink_Smaller.b0 (φ : Nat) (a0 : Ty.api_Grammar) (a1 : Ty.api_Tree) (i5 : Int) (x3 : Ty.api_Tree) (s9 : (List Ty.api_Tree)) : Option (List Ty.api_Tree) :=
  (Pu.ix a0.Rules a1.Rule).bind fun x4 =>
  (P.shrink_below φ a0 x3 x4.Left).bind fun x5 =>
  (Pu.app 40 s9 x5).bind fun x6 =>
  some x6
def P.shrink_Smaller : Nat → (Ty.api_Grammar) → (Ty.api_Tree) → Option (List Ty.api_Tree)
  | 0, _, _ => none
  | φ + 1, a0, a1 =>
  (P.tree_Check φ a0 a1).bind fun x1 =>
  (if ((decide (x1 ≠ 0)) || (decide (a1.Rule < 0))) then
      some true
    else
      (P.tree_Size φ a1).bind fun x2 =>
      some (decide (60 < x2))).bind fun y1 =>
  if y1 then
    some []
  else
    (Pu.forP (P.shrink_Smaller.b0 φ a0 a1) 0 a1.Kids []).bind fun y2 =>
    (Pu.forP (P.shrink_Smaller.b1 (P.shrink_Smaller φ) φ a0 a1) 0 a1.Kids y2).bind fun y3 =>
    some y3
/-! parlkeep5_plain -/
def P.parlkeep5_plain : Option Ty.api_Grammar :=
  some (Ty.api_Grammar.mk 2 1 0 [(Ty.api_Rule.mk 0 [(Ty.api_Sym.mk true 0)]), (Ty.api_Rule.mk 0 [(Ty.api_Sym.mk true 1), (Ty.api_Sym.mk false 0)])])
/-! parlmake_tree -/
def P.parlmake_tree.b1 (rf_parlmake_tree : (Ty.api_Grammar) → (Ty.api_Sym) → (Ty.parlmake_stream) → (Int) → (Int) → Option (Ty.parlmake_stream × Int × Ty.api_Tree × Bool)) (a0 : Ty.api_Grammar) (a4 : Int) (i7 : Int) (x6 : Ty.api_Sym) (s23 : ((List Int) × Int × (List Ty.api_Tree))) : Option (Pu.Step ((List Int) × Int × (List Ty.api_Tree)) (Ty.parlmake_stream × Int × Ty.api_Tree × Bool)) :=
  (rf_parlmake_tree a0 x6 (Ty.parlmake_stream.mk s23.1) s23.2.1 (Pu.W (a4 - 1))).bind fun x7 =>
  if !x7.2.2.2 then
    some (Pu.Step.rt (x7.1, x7.2.1, (Ty.api_Tree.mk 0 0 []), false))
  else
    (Pu.app 40 s23.2.2 [x7.2.2.1]).bind fun x8 =>
    some (Pu.Step.nx (x7.1.l, x7.2.1, x8))
def P.parlmake_tree.b0 (a1 : Ty.api_Sym) (i2 : Int) (x1 : Ty.api_Rule) (s8 : (List Int)) : Option (List Int) :=
  (if x1.Left = a1.N then
      (Pu.app 8 s8 [(i2 : Int)]).bind fun x2 =>
      some x2
    else
      some s8).bind fun y2 =>
  some y2
def P.parlmake_tree : Nat → (Ty.api_Grammar) → (Ty.api_Sym) → (Ty.parlmake_stream) → (Int) → (Int) → Option (Ty.parlmake_stream × Int × Ty.api_Tree × Bool)
  | 0, _, _, _, _, _ => none
  | φ + 1, a0, a1, a2, a3, a4 =>
  if ((decide ((Pu.W (a3 - 1)) < 0)) || (decide (a4 < 0))) then
    some (a2, (Pu.W (a3 - 1)), (Ty.api_Tree.mk 0 0 []), false)
  else
    if a1.Term then
      some (a2, (Pu.W (a3 - 1)), (Ty.api_Tree.mk (-1) a1.N []), true)
    else
      (Pu.forP (P.parlmake_tree.b0 a1) 0 a0.Rules []).bind fun y1 =>
      if (y1.length : Int) = 0 then
        some (a2, (Pu.W (a3 - 1)), (Ty.api_Tree.mk 0 0 []), false)
      else
        (P.parlmake_stream_next a2 (y1.length : Int)).bind fun x3 =>
        (Pu.ix y1 x3.2).bind fun x4 =>
        (Pu.ix a0.Rules x4).bind fun x5 =>
        (Pu.forL (P.parlmake_tree.b1 (P.parlmake_tree φ) a0 a4) 0 x5.Right (x3.1.l, (Pu.W (a3 - 1)), [])).bind fun y3 =>
        y3.cs (fun s25 =>
          some ((Ty.parlmake_stream.mk s25.1), s25.2.1, (Ty.api_Tree.mk x4 0 s25.2.2), true)) (fun r => some r)
/-! parlmake_Tree -/
def P.parlmake_Tree (φ : Nat) (a0 : Ty.api_Grammar) (a1 : (List Int)) : Option (Ty.api_Tree × Bool) :=
  (P.parlmake_tree φ a0 (Ty.api_Sym.mk false a0.Start) (Ty.parlmake_stream.mk a1) 60 12).bind fun x1 =>
  some (x1.2.2.1, x1.2.2.2)
/-! parlkeep5_below -/
def P.parlkeep5_below (a0 : Int) (a1 : Int) : Option Int :=
  (P.parlmake_Below a0 a1).bind fun x1 =>
  some x1
/-! tree_word -/
def P.tree_word.b0 (rf_tree_word : ((List Int)) → (Ty.api_Tree) → Option (List Int)) (i3 : Int) (x3 : Ty.api_Tree) (s6 : (List Int)) : Option (List Int) :=
  (rf_tree_word s6 x3).bind fun x4 =>
  some x4
def P.tree_word : Nat → ((List Int)) → (Ty.api_Tree) → Option (List Int)
  | 0, _, _ => none
  | φ + 1, a0, a1 =>
  (P.tree_leaf a1).bind fun x1 =>
  if x1 then
    (Pu.app 8 a0 [a1.Term]).bind fun x2 =>
    some x2
  else
    (Pu.forP (P.tree_word.b0 (P.tree_word φ)) 0 a1.Kids a0).bind fun y1 =>
    some y1
/-! tree_Word -/
def P.tree_Word (φ : Nat) (a0 : Ty.api_Tree) : Option (List Int) :=
  (P.tree_word φ [] a0).bind fun x1 =>
  some x1
/-! parlkeep5_ShrinkTree_1 -/
def P.parlkeep5_ShrinkTree_1 (φ : Nat) (a0 : Ty.api_Tree) (a1 : Int) : Option Bool :=
  ((P.tree_Word φ a0).bind fun x1 =>
    (Pu.rem (Pu.W ((x1.length : Int) + a1)) 2).bind fun x2 =>
    if decide (x2 = 0) then
      some true
    else
      (P.tree_Size φ a0).bind fun x3 =>
      some (decide (9 < x3))).bind fun y1 =>
  some y1
/-! shrink_Tree__parlkeep5_ShrinkTree_1 -/
def P.shrink_Tree__parlkeep5_ShrinkTree_1.b1 (φ : Nat) (a2c0 : Int) (i11 : Int) (x8 : Ty.api_Tree) (s25 : (Int × Int × (List Ty.api_Tree) × Bool)) : Option (Pu.Step (Int × Int × (List Ty.api_Tree) × Bool) Unit) :=
  (P.tree_Clone φ x8).bind fun x9 =>
  (P.parlkeep5_ShrinkTree_1 φ x9 a2c0).bind fun x10 =>
  if x10 then
    some (Pu.Step.br (x8.Rule, x8.Term, x8.Kids, true))
  else
    some (Pu.Step.nx (s25.1, s25.2.1, s25.2.2.1, s25.2.2.2))
def P.shrink_Tree__parlkeep5_ShrinkTree_1.b0 (φ : Nat) (a0 : Ty.api_Grammar) (a2c0 : Int) (s19 : (Int × Int × (List Ty.api_Tree) × Bool)) : Option (Pu.Step (Int × Int × (List Ty.api_Tree) × Bool) Unit) :=
  if s19.2.2.2 then
    (P.shrink_Smaller φ a0 (Ty.api_Tree.mk s19.1 s19.2.1 s19.2.2.1)).bind fun x7 =>
    (Pu.forL (P.shrink_Tree__parlkeep5_ShrinkTree_1.b1 φ a2c0) 0 x7 (s19.1, s19.2.1, s19.2.2.1, false)).bind fun y3 =>
    y3.cs (fun s27 =>
      some (Pu.Step.nx (s27.1, s27.2.1, s27.2.2.1, s27.2.2.2))) (fun r => none)
  else
    some (Pu.Step.br (s19.1, s19.2.1, s19.2.2.1, s19.2.2.2))
def P.shrink_Tree__parlkeep5_ShrinkTree_1 (φ : Nat) (a0 : Ty.api_Grammar) (a1 : Ty.api_Tree) (a2c0 : Int) : Option (Ty.api_Tree × Int) :=
  (P.tree_Check φ a0 a1).bind fun x1 =>
  if x1 ≠ 0 then
    some ((Ty.api_Tree.mk 0 0 []), x1)
  else
    (P.tree_Size φ a1).bind fun x2 =>
    if 60 < x2 then
      some ((Ty.api_Tree.mk 0 0 []), 2)
    else
      (P.tree_Clone φ a1).bind fun x3 =>
      (P.parlkeep5_ShrinkTree_1 φ x3 a2c0).bind fun x4 =>
      if !x4 then
        some ((Ty.api_Tree.mk 0 0 []), 7)
      else
        (P.tree_Clone φ a1).bind fun x5 =>
        (Pu.whl (P.shrink_Tree__parlkeep5_ShrinkTree_1.b0 φ a0 a2c0) φ (x5.Rule, x5.Term, x5.Kids, true)).bind fun y1 =>
        y1.cs (fun s21 =>
          some ((Ty.api_Tree.mk s21.1 s21.2.1 s21.2.2.1), 0)) (fun r => none)
/-! parlkeep5_ShrinkTree -/
def P.parlkeep5_ShrinkTree.b0 (φ : Nat) (x1 : Ty.api_Grammar) (x6 : Int) (x7 : (Ty.api_Tree × Int)) (i19 : Int) (x15 : Ty.api_Tree) (s46 : Unit) : Option (Pu.Step Unit Bool) :=
  ((P.parlkeep5_ShrinkTree_1 φ x15 x6).bind fun x16 =>
    if x16 then
      some true
    else
      (P.tree_Size φ x15).bind fun x17 =>
      (P.tree_Size φ x7.1).bind fun x18 =>
      if decide (x18 ≤ x17) then
        some true
      else
        (P.tree_Check φ x1 x15).bind fun x19 =>
        some (decide (x19 ≠ 0))).bind fun y5 =>
  if y5 then
    some (Pu.Step.rt false)
  else
    some (Pu.Step.nx ())
def P.parlkeep5_ShrinkTree (φ : Nat) (a0 : (List Int)) (a1 : (List Int)) (a2 : Int) : Option Bool :=
  (P.parlmake_Grammar a0).bind fun x1 =>
  (P.parlkeep5_plain).bind fun x2 =>
  (P.shrink_Smaller φ x2 (Ty.api_Tree.mk 1 0 [(Ty.api_Tree.mk (-1) 1 []), (Ty.api_Tree.mk 0 0 [(Ty.api_Tree.mk (-1) 0 [])])])).bind fun x3 =>
  if (x3.length : Int) ≠ 1 then
    some false
  else
    (P.parlmake_Tree φ x1 a1).bind fun x4 =>
    (if !x4.2 then
        some true
      else
        (P.tree_Size φ x4.1).bind fun x5 =>
        some (decide (60 < x5))).bind fun y1 =>
    if y1 then
      some true
    else
      (P.parlkeep5_below a2 4).bind fun x6 =>
      (P.shrink_Tree__parlkeep5_ShrinkTree_1 φ x1 x4.1 x6).bind fun x7 =>
      (P.parlkeep5_ShrinkTree_1 φ x4.1 x6).bind fun x8 =>
      if !x8 then
        some (decide (x7.2 = 7))
      else
        (if decide (x7.2 ≠ 0) then
            some true
          else
            (P.parlkeep5_ShrinkTree_1 φ x7.1 x6).bind fun x9 =>
            if !x9 then
              some true
            else
              (P.tree_Check φ x1 x7.1).bind fun x10 =>
              if decide (x10 ≠ 0) then
                some true
              else
                (Pu.ix x1.Rules x7.1.Rule).bind fun x11 =>
                if decide (x11.Left ≠ x1.Start) then
                  some true
                else
                  (P.tree_Size φ x7.1).bind fun x12 =>
                  (P.tree_Size φ x4.1).bind fun x13 =>
                  some (decide (x13 < x12))).bind fun y2 =>
        if y2 then
          some false
        else
          (P.shrink_Smaller φ x1 x7.1).bind fun x14 =>
          (Pu.forL (P.parlkeep5_ShrinkTree.b0 φ x1 x6 x7) 0 x14 ()).bind fun y3 =>
          y3.cs (fun s48 =>
            some true) (fun r => some r)
end Go.Proofs.Ythgdobdhdfjhfaa
