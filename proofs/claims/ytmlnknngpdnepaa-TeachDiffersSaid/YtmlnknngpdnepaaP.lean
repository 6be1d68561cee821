/- Plain functions, printed by wip/tools/lift.py. -/
import Derived.Test.YtmlnknngpdnepaaTy
namespace Go.Proofs.Ytmlnknngpdnepaa
open Go Go.Ab
/-! parlmake_Below -/
def P.parlmake_Below (a0 : Int) (a1 : Int) : Option Int :=
  (Pu.rem a0 a1).bind fun x1 =>
  (if x1 < 0 then
      some (Pu.W (x1 + a1))
    else
      some x1).bind fun y1 =>
  some y1
/-! parlmake_stream_next -/
def P.parlmake_stream_next (a0 : Ty.parlmake_stream) (a1 : Int) : Option (Ty.parlmake_stream × Int) :=
  if (a0.l.length : Int) = 0 then
    some (a0, 0)
  else
    (Pu.ix a0.l 0).bind fun x1 =>
    (Pu.sub a0.l 1 a0.l.length).bind fun x2 =>
    (P.parlmake_Below x1 a1).bind fun x3 =>
    some ((Ty.parlmake_stream.mk x2), x3)
/-! parlmake_Dfa -/
def P.parlmake_Dfa.b1 (x1 : (Ty.parlmake_stream × Int)) (i8 : Int) (x8 : Int) (s24 : ((List Int) × (List Int))) : Option ((List Int) × (List Int)) :=
  (P.parlmake_stream_next (Ty.parlmake_stream.mk s24.1) (Pu.W ((Pu.W (1 + x1.2)) + 1))).bind fun x10 =>
  (Pu.app 8 s24.2 [(Pu.W (x10.2 - 1))]).bind fun x11 =>
  some (x10.1.l, x11)
def P.parlmake_Dfa.b0 (x1 : (Ty.parlmake_stream × Int)) (x2 : (Ty.parlmake_stream × Int)) (i5 : Int) (x4 : Int) (s14 : ((List Int) × (List Int) × (List (List Int)))) : Option ((List Int) × (List Int) × (List (List Int))) :=
  (P.parlmake_stream_next (Ty.parlmake_stream.mk s14.1) 3).bind fun x6 =>
  (Pu.app 8 s14.2.1 [(Pu.W (x6.2 - 1))]).bind fun x7 =>
  (Pu.ranO (Pu.W (1 + x2.2))).bind fun x9 =>
  (Pu.forP (P.parlmake_Dfa.b1 x1) 0 x9 (x6.1.l, [])).bind fun y2 =>
  (Pu.app 24 s14.2.2 [y2.2]).bind fun x12 =>
  some (y2.1, x7, x12)
def P.parlmake_Dfa (a0 : (List Int)) : Option Ty.api_Dfa :=
  (P.parlmake_stream_next (Ty.parlmake_stream.mk a0) 6).bind fun x1 =>
  (P.parlmake_stream_next x1.1 3).bind fun x2 =>
  (P.parlmake_stream_next x2.1 (Pu.W (1 + x1.2))).bind fun x3 =>
  (Pu.ranO (Pu.W (1 + x1.2))).bind fun x5 =>
  (Pu.forP (P.parlmake_Dfa.b0 x1 x2) 0 x5 (x3.1.l, [], [])).bind fun y1 =>
  some (Ty.api_Dfa.mk x3.2 y1.2.1 y1.2.2)
/-! dfa_Check -/
def P.dfa_Check.b2 (a0 : Ty.api_Dfa) (i9 : Int) (x5 : Int) (s14 : Unit) : Option (Pu.Step Unit (Pu.Step Unit Int)) :=
  if ((decide (x5 < (-1))) || (decide ((a0.Next.length : Int) ≤ x5))) then
    some (Pu.Step.rt (Pu.Step.rt 1))
  else
    some (Pu.Step.nx ())
def P.dfa_Check.b1 (a0 : Ty.api_Dfa) (i7 : Int) (x3 : (List Int)) (s10 : Unit) : Option (Pu.Step Unit Int) :=
  (Pu.ix a0.Accept (i7 : Int)).bind fun x4 =>
  if x4 < (-1) then
    some (Pu.Step.rt 1)
  else
    (Pu.forL (P.dfa_Check.b2 a0) 0 x3 ()).bind fun y5 =>
    y5.cs (fun s16 =>
      some (Pu.Step.nx ())) (fun r => some r)
def P.dfa_Check.b0 (x1 : (List Int)) (i3 : Int) (x2 : (List Int)) (s3 : Unit) : Option (Pu.Step Unit Int) :=
  if ((decide ((x2.length : Int) ≠ (x1.length : Int))) || (decide ((x1.length : Int) = 0))) then
    some (Pu.Step.rt 3)
  else
    some (Pu.Step.nx ())
def P.dfa_Check (a0 : Ty.api_Dfa) : Option Int :=
  if 200 < (a0.Next.length : Int) then
    some 2
  else
    if ((decide ((a0.Next.length : Int) = 0)) || (decide ((a0.Accept.length : Int) ≠ (a0.Next.length : Int)))) then
      some 3
    else
      (Pu.ix a0.Next 0).bind fun x1 =>
      if 16 < (x1.length : Int) then
        some 2
      else
        (Pu.forL (P.dfa_Check.b0 x1) 0 a0.Next ()).bind fun y1 =>
        y1.cs (fun s5 =>
          if ((decide (a0.Start < 0)) || (decide ((a0.Next.length : Int) ≤ a0.Start))) then
            some 1
          else
            (Pu.forL (P.dfa_Check.b1 a0) 0 a0.Next ()).bind fun y3 =>
            y3.cs (fun s12 =>
              some 0) (fun r => some r)) (fun r => some r)
/-! teach_New -/
def P.teach_New.b0 (i5 : Int) (x3 : (List Int)) (s8 : (List (List Int))) : Option (List (List Int)) :=
  (Pu.app 8 [] x3).bind fun x4 =>
  (Pu.app 24 s8 [x4]).bind fun x5 =>
  some x5
def P.teach_New (a0 : Ty.api_Dfa) : Option ((Option Ty.teach_Teacher) × Int) :=
  (P.dfa_Check a0).bind fun x1 =>
  if x1 ≠ 0 then
    some (none, x1)
  else
    (Pu.app 8 [] a0.Accept).bind fun x2 =>
    (Pu.forP (P.teach_New.b0) 0 a0.Next []).bind fun y1 =>
    some ((some (Ty.teach_Teacher.mk (Ty.api_Dfa.mk a0.Start x2 y1) 0 0)), 0)
/-! parlkeep5_ends -/
def P.parlkeep5_ends : Option Ty.api_Dfa :=
  some (Ty.api_Dfa.mk 0 [(-1), 0] [[1, 0], [1, 0]])
/-! teach_Teacher_Symbols -/
def P.teach_Teacher_Symbols (a0 : Ty.teach_Teacher) : Option Int :=
  (Pu.ix a0.d.Next 0).bind fun x1 =>
  some (x1.length : Int)
/-! math_bits_Mul32 -/
def P.math_bits_Mul32 (a0 : Int) (a1 : Int) : Option (Int × Int) :=
  (Pu.shr .u64 (IntKind.u64.wrap ((IntKind.u64.wrap a0) * (IntKind.u64.wrap a1))) 32).bind fun x1 =>
  some ((IntKind.u32.wrap x1), (IntKind.u32.wrap (IntKind.u64.wrap ((IntKind.u64.wrap a0) * (IntKind.u64.wrap a1)))))
/-! math_bits_Mul64 -/
def P.math_bits_Mul64 (a0 : Int) (a1 : Int) : Option (Int × Int) :=
  (Pu.shr .u64 a0 32).bind fun x1 =>
  (Pu.shr .u64 a1 32).bind fun x2 =>
  (Pu.shr .u64 (IntKind.u64.wrap ((Pu.band .u64 a0 4294967295) * (Pu.band .u64 a1 4294967295))) 32).bind fun x3 =>
  (Pu.shr .u64 (IntKind.u64.wrap ((IntKind.u64.wrap (x1 * (Pu.band .u64 a1 4294967295))) + x3)) 32).bind fun x4 =>
  (Pu.shr .u64 (IntKind.u64.wrap ((Pu.band .u64 (IntKind.u64.wrap ((IntKind.u64.wrap (x1 * (Pu.band .u64 a1 4294967295))) + x3)) 4294967295) + (IntKind.u64.wrap ((Pu.band .u64 a0 4294967295) * x2)))) 32).bind fun x5 =>
  some ((IntKind.u64.wrap ((IntKind.u64.wrap ((IntKind.u64.wrap (x1 * x2)) + x4)) + x5)), (IntKind.u64.wrap (a0 * a1)))
/-! math_bits_Mul -/
def P.math_bits_Mul (a0 : Int) (a1 : Int) : Option (Int × Int) :=
  (P.math_bits_Mul64 a0 a1).bind fun x1 =>
  some (x1.1, x1.2)
/-! slices_Repeat_int_int -/
def P.slices_Repeat_int_int.b0 (s6 : ((List Int) × Int)) : Option (Pu.Step ((List Int) × Int) Unit) :=
  if s6.2 < (s6.1.length : Int) then
    (Pu.sub s6.1 s6.2 s6.1.length).bind fun x4 =>
    (Pu.sub s6.1 0 s6.2).bind fun x5 =>
    some (Pu.Step.nx ((Pu.cpy s6.1 s6.2 x5), (Pu.W (s6.2 + (Pu.cpn s6.1 s6.2 x5)))))
  else
    some (Pu.Step.br (s6.1, s6.2))
def P.slices_Repeat_int_int (φ : Nat) (a0 : (List Int)) (a1 : Int) : Option (List Int) :=
  if a1 < 0 then
    none
  else
    (P.math_bits_Mul (IntKind.u64.wrap (a0.length : Int)) (IntKind.u64.wrap a1)).bind fun x1 =>
    if ((decide (0 < x1.1)) || (decide (9223372036854775807 < x1.2))) then
      none
    else
      (Pu.mk 8 (Pu.W x1.2) (Pu.W x1.2) 0).bind fun x2 =>
      (Pu.whl (P.slices_Repeat_int_int.b0) φ ((Pu.cpy x2 0 a0), (Pu.cpn x2 0 a0))).bind fun y1 =>
      y1.cs (fun s8 =>
        some s8.1) (fun r => none)
/-! slices_Clone_int_int -/
def P.slices_Clone_int_int (a0 : (List Int)) : Option (List Int) :=
  (Pu.app 8 [] a0).bind fun x1 =>
  some x1
/-! mini_complete -/
def P.mini_complete.b3 (x11 : Int) (y1 : (List (List Int))) (i12 : Int) (x15 : Int) (s36 : (List (List (List Int)))) : Option (List (List (List Int))) :=
  (Pu.ix y1 x15).bind fun x17 =>
  (Pu.ix x17 x11).bind fun x18 =>
  (Pu.ix s36 x11).bind fun x19 =>
  (Pu.ix s36 x11).bind fun x20 =>
  (Pu.ix x19 x18).bind fun x21 =>
  (Pu.app 8 x21 [x15]).bind fun x22 =>
  (Pu.ix x19 x18).bind fun x23 =>
  some (Pu.st s36 x11 (Pu.st x19 x18 x22))
def P.mini_complete.b2 (a0 : Ty.api_Dfa) (y1 : (List (List Int))) (i10 : Int) (x11 : Int) (s28 : (List (List (List Int)))) : Option (List (List (List Int))) :=
  (Pu.mk 24 (Pu.W ((a0.Next.length : Int) + 1)) (Pu.W ((a0.Next.length : Int) + 1)) []).bind fun x13 =>
  (Pu.app 24 s28 [x13]).bind fun x14 =>
  (Pu.ranO (y1.length : Int)).bind fun x16 =>
  (Pu.forP (P.mini_complete.b3 x11 y1) 0 x16 x14).bind fun y6 =>
  some y6
def P.mini_complete.b1 (i7 : Int) (x8 : Int) (s17 : (List Int)) : Option (List Int) :=
  (if 0 ≤ x8 then
      (Pu.ix s17 (i7 : Int)).bind fun x9 =>
      some (Pu.st s17 (i7 : Int) x8)
    else
      some s17).bind fun y4 =>
  some y4
def P.mini_complete.b0 (φ : Nat) (a0 : Ty.api_Dfa) (x1 : (List Int)) (i4 : Int) (x4 : Int) (s10 : (List (List Int))) : Option (List (List Int)) :=
  (P.slices_Repeat_int_int φ [(a0.Next.length : Int)] (x1.length : Int)).bind fun x6 =>
  (if x4 < (a0.Next.length : Int) then
      (Pu.ix a0.Next x4).bind fun x7 =>
      (Pu.forP (P.mini_complete.b1) 0 x7 x6).bind fun y3 =>
      some y3
    else
      some x6).bind fun y2 =>
  (Pu.app 24 s10 [y2]).bind fun x10 =>
  some x10
def P.mini_complete (φ : Nat) (a0 : Ty.api_Dfa) : Option Ty.mini_full :=
  (Pu.ix a0.Next 0).bind fun x1 =>
  (P.slices_Clone_int_int a0.Accept).bind fun x2 =>
  (Pu.app 8 x2 [(-1)]).bind fun x3 =>
  (Pu.ranO (Pu.W ((a0.Next.length : Int) + 1))).bind fun x5 =>
  (Pu.forP (P.mini_complete.b0 φ a0 x1) 0 x5 []).bind fun y1 =>
  (Pu.ranO (x1.length : Int)).bind fun x12 =>
  (Pu.forP (P.mini_complete.b2 a0 y1) 0 x12 []).bind fun y5 =>
  some (Ty.mini_full.mk x3 y1 y5)
/-! mini_begin -/
def P.mini_begin.b0 (i2 : Int) (x2 : Int) (s4 : ((List Int) × (List (List Int)) × (List (Int × Int)))) : Option ((List Int) × (List (List Int)) × (List (Int × Int))) :=
  (if !((Pu.mget x2 s4.2.2).isSome) then
      (Pu.app 24 s4.2.1 [[]]).bind fun x3 =>
      some (x3, (Pu.mput x2 (s4.2.1.length : Int) s4.2.2), (s4.2.1.length : Int))
    else
      some (s4.2.1, s4.2.2, ((Pu.mget x2 s4.2.2).getD 0))).bind fun y2 =>
  (Pu.ix y2.1 y2.2.2).bind fun x4 =>
  (Pu.app 8 x4 [(i2 : Int)]).bind fun x5 =>
  (Pu.ix s4.1 (i2 : Int)).bind fun x6 =>
  (Pu.ix y2.1 y2.2.2).bind fun x7 =>
  some ((Pu.st s4.1 (i2 : Int) y2.2.2), (Pu.st y2.1 y2.2.2 x5), y2.2.1)
def P.mini_begin (a0 : (List Int)) : Option Ty.mini_parts :=
  (Pu.mk 8 (a0.length : Int) (a0.length : Int) 0).bind fun x1 =>
  (Pu.forP (P.mini_begin.b0) 0 a0 (x1, [], [])).bind fun y1 =>
  some (Ty.mini_parts.mk y1.1 y1.2.1)
/-! slices_Index_int_int -/
def P.slices_Index_int_int.b0 (a0 : (List Int)) (a1 : Int) (i1 : Int) (x1 : Int) (s1 : Unit) : Option (Pu.Step Unit Int) :=
  (Pu.ix a0 x1).bind fun x3 =>
  if a1 = x3 then
    some (Pu.Step.rt x1)
  else
    some (Pu.Step.nx ())
def P.slices_Index_int_int (a0 : (List Int)) (a1 : Int) : Option Int :=
  (Pu.ranO (a0.length : Int)).bind fun x2 =>
  (Pu.forL (P.slices_Index_int_int.b0 a0 a1) 0 x2 ()).bind fun y1 =>
  y1.cs (fun s3 =>
    some (-1)) (fun r => some r)
/-! slices_Contains_int_int -/
def P.slices_Contains_int_int (a0 : (List Int)) (a1 : Int) : Option Bool :=
  (P.slices_Index_int_int a0 a1).bind fun x1 =>
  some (decide (0 ≤ x1))
/-! mini_parts_split -/
def P.mini_parts_split.b3 (s12 : ((List Int) × (List (List Int)) × (List (Int × Int)))) (i11 : Int) (x13 : Int) (s31 : (List Int)) : Option (List Int) :=
  (Pu.ix s31 x13).bind fun x14 =>
  some (Pu.st s31 x13 (s12.2.1.length : Int))
def P.mini_parts_split.b2 (y1 : ((List (Int × Bool)) × (List Int))) (i7 : Int) (x8 : Int) (s15 : ((List Int) × (List Int))) : Option ((List Int) × (List Int)) :=
  (if ((Pu.mget x8 y1.1).getD false) then
      (Pu.app 8 s15.1 [x8]).bind fun x9 =>
      some (x9, s15.2)
    else
      (Pu.app 8 s15.2 [x8]).bind fun x10 =>
      some (s15.1, x10)).bind fun y5 =>
  some (y5.1, y5.2)
def P.mini_parts_split.b1 (y1 : ((List (Int × Bool)) × (List Int))) (i5 : Int) (x6 : Int) (s12 : ((List Int) × (List (List Int)) × (List (Int × Int)))) : Option ((List Int) × (List (List Int)) × (List (Int × Int))) :=
  (Pu.ix s12.2.1 x6).bind fun x7 =>
  (Pu.forP (P.mini_parts_split.b2 y1) 0 x7 ([], [])).bind fun y4 =>
  if (y4.2.length : Int) = 0 then
    some (s12.1, s12.2.1, s12.2.2)
  else
    (Pu.ix s12.2.1 x6).bind fun x11 =>
    (Pu.app 24 (Pu.st s12.2.1 x6 y4.1) [y4.2]).bind fun x12 =>
    (Pu.forP (P.mini_parts_split.b3 s12) 0 y4.2 s12.1).bind fun y6 =>
    (Pu.app 16 s12.2.2 [(x6, (s12.2.1.length : Int))]).bind fun x15 =>
    some (y6, x12, x15)
def P.mini_parts_split.b0 (a0 : Ty.mini_parts) (i1 : Int) (x1 : Int) (s2 : ((List (Int × Bool)) × (List Int))) : Option ((List (Int × Bool)) × (List Int)) :=
  (Pu.ix a0.of_ x1).bind fun x2 =>
  (P.slices_Contains_int_int s2.2 x2).bind fun x3 =>
  (if !x3 then
      (Pu.ix a0.of_ x1).bind fun x4 =>
      (Pu.app 8 s2.2 [x4]).bind fun x5 =>
      some x5
    else
      some s2.2).bind fun y2 =>
  some ((Pu.mput x1 true s2.1), y2)
def P.mini_parts_split (a0 : Ty.mini_parts) (a1 : (List Int)) : Option (Ty.mini_parts × (List (Int × Int))) :=
  (Pu.forP (P.mini_parts_split.b0 a0) 0 a1 ([], [])).bind fun y1 =>
  (Pu.forP (P.mini_parts_split.b1 y1) 0 y1.2 (a0.of_, a0.blocks, [])).bind fun y3 =>
  some ((Ty.mini_parts.mk y3.1 y3.2.1), y3.2.2)
/-! slices_Index_mini_task_mini_task -/
def P.slices_Index_mini_task_mini_task.b0 (a0 : (List Ty.mini_task)) (a1 : Ty.mini_task) (i1 : Int) (x1 : Int) (s2 : Unit) : Option (Pu.Step Unit Int) :=
  (Pu.ix a0 x1).bind fun x3 =>
  if ((a1.block == x3.block) && (a1.by_ == x3.by_)) then
    some (Pu.Step.rt x1)
  else
    some (Pu.Step.nx ())
def P.slices_Index_mini_task_mini_task (a0 : (List Ty.mini_task)) (a1 : Ty.mini_task) : Option Int :=
  (Pu.ranO (a0.length : Int)).bind fun x2 =>
  (Pu.forL (P.slices_Index_mini_task_mini_task.b0 a0 a1) 0 x2 ()).bind fun y1 =>
  y1.cs (fun s4 =>
    some (-1)) (fun r => some r)
/-! slices_Contains_mini_task_mini_task -/
def P.slices_Contains_mini_task_mini_task (a0 : (List Ty.mini_task)) (a1 : Ty.mini_task) : Option Bool :=
  (P.slices_Index_mini_task_mini_task a0 a1).bind fun x1 =>
  some (decide (0 ≤ x1))
/-! mini_hopcroft -/
def P.mini_hopcroft.b5 (x15 : (Ty.mini_parts × (List (Int × Int)))) (x16 : (Int × Int)) (i12 : Int) (x17 : Int) (s38 : (List Ty.mini_task)) : Option (List Ty.mini_task) :=
  (Pu.ix x15.1.blocks x16.1).bind fun x19 =>
  (Pu.ix x15.1.blocks x16.2).bind fun x20 =>
  (if decide ((x19.length : Int) < (x20.length : Int)) then
      (P.slices_Contains_mini_task_mini_task s38 (Ty.mini_task.mk x16.1 x17)).bind fun x21 =>
      some (!x21)
    else
      some false).bind fun y8 =>
  (if y8 then
      some x16.1
    else
      some x16.2).bind fun y9 =>
  (Pu.app 16 s38 [(Ty.mini_task.mk y9 x17)]).bind fun x22 =>
  some x22
def P.mini_hopcroft.b4 (a0 : Ty.mini_full) (x15 : (Ty.mini_parts × (List (Int × Int)))) (i11 : Int) (x16 : (Int × Int)) (s32 : (List Ty.mini_task)) : Option (List Ty.mini_task) :=
  (Pu.ranO (a0.prev.length : Int)).bind fun x18 =>
  (Pu.forP (P.mini_hopcroft.b5 x15 x16) 0 x18 s32).bind fun y7 =>
  some y7
def P.mini_hopcroft.b3 (a0 : Ty.mini_full) (x8 : Ty.mini_task) (i9 : Int) (x11 : Int) (s24 : (List Int)) : Option (List Int) :=
  (Pu.ix a0.prev x8.by_).bind fun x12 =>
  (Pu.ix x12 x11).bind fun x13 =>
  (Pu.app 8 s24 x13).bind fun x14 =>
  some x14
def P.mini_hopcroft.b2 (a0 : Ty.mini_full) (s15 : ((List Int) × (List (List Int)) × (List Ty.mini_task))) : Option (Pu.Step ((List Int) × (List (List Int)) × (List Ty.mini_task)) Unit) :=
  if 0 < (s15.2.2.length : Int) then
    (Pu.ix s15.2.2 (Pu.W ((s15.2.2.length : Int) - 1))).bind fun x8 =>
    (Pu.sub s15.2.2 0 (Pu.W ((s15.2.2.length : Int) - 1))).bind fun x9 =>
    (Pu.ix s15.2.1 x8.block).bind fun x10 =>
    (Pu.forP (P.mini_hopcroft.b3 a0 x8) 0 x10 []).bind fun y5 =>
    (P.mini_parts_split (Ty.mini_parts.mk s15.1 s15.2.1) y5).bind fun x15 =>
    (Pu.forP (P.mini_hopcroft.b4 a0 x15) 0 x15.2 x9).bind fun y6 =>
    some (Pu.Step.nx (x15.1.of_, x15.1.blocks, y6))
  else
    some (Pu.Step.br (s15.1, s15.2.1, s15.2.2))
def P.mini_hopcroft.b1 (x2 : Int) (i4 : Int) (x4 : Int) (s7 : (List Ty.mini_task)) : Option (List Ty.mini_task) :=
  (Pu.app 16 s7 [(Ty.mini_task.mk x2 x4)]).bind fun x6 =>
  some x6
def P.mini_hopcroft.b0 (a0 : Ty.mini_full) (i3 : Int) (x2 : Int) (s4 : (List Ty.mini_task)) : Option (List Ty.mini_task) :=
  (Pu.ranO (a0.prev.length : Int)).bind fun x5 =>
  (Pu.forP (P.mini_hopcroft.b1 x2) 0 x5 s4).bind fun y2 =>
  some y2
def P.mini_hopcroft (φ : Nat) (a0 : Ty.mini_full) : Option (List Int) :=
  (P.mini_begin a0.accept).bind fun x1 =>
  (Pu.ranO (x1.blocks.length : Int)).bind fun x3 =>
  (Pu.forP (P.mini_hopcroft.b0 a0) 0 x3 []).bind fun y1 =>
  (Pu.whl (P.mini_hopcroft.b2 a0) φ (x1.of_, x1.blocks, y1)).bind fun y3 =>
  y3.cs (fun s17 =>
    some s17.1) (fun r => none)
/-! mini_Min -/
def P.mini_Min.b1 (x3 : (List Int)) (x4 : Int) (i11 : Int) (x11 : Int) (s25 : ((List (Int × Int)) × (List Int) × (List Int))) : Option ((List (Int × Int)) × (List Int) × (List Int)) :=
  (Pu.ix x3 x11).bind fun x12 =>
  if x12 = x4 then
    some (s25.1, s25.2.1, s25.2.2)
  else
    (if !((Pu.mget x12 s25.1).isSome) then
        (Pu.app 8 s25.2.1 [x11]).bind fun x13 =>
        some ((Pu.mput x12 (s25.1.length : Int) s25.1), x13)
      else
        some (s25.1, s25.2.1)).bind fun y4 =>
    (Pu.ix s25.2.2 (i11 : Int)).bind fun x14 =>
    some (y4.1, y4.2, (Pu.st s25.2.2 (i11 : Int) ((Pu.mget x12 y4.1).getD 0)))
def P.mini_Min.b0 (φ : Nat) (a0 : Ty.api_Dfa) (x2 : Ty.mini_full) (x3 : (List Int)) (x4 : Int) (s17 : ((List (Int × Int)) × (List Int) × (List (List Int)) × (List Int))) : Option (Pu.Step ((List (Int × Int)) × (List Int) × (List (List Int)) × (List Int)) Unit) :=
  if 0 < (s17.2.2.2.length : Int) then
    (Pu.ix a0.Next 0).bind fun x7 =>
    (P.slices_Repeat_int_int φ [(-1)] (x7.length : Int)).bind fun x8 =>
    (Pu.ix s17.2.2.2 0).bind fun x9 =>
    (Pu.ix x2.next_ x9).bind fun x10 =>
    (Pu.forP (P.mini_Min.b1 x3 x4) 0 x10 (s17.1, s17.2.2.2, x8)).bind fun y3 =>
    (Pu.ix y3.2.1 0).bind fun x15 =>
    (Pu.ix x2.accept x15).bind fun x16 =>
    (Pu.app 8 s17.2.1 [x16]).bind fun x17 =>
    (Pu.app 24 s17.2.2.1 [y3.2.2]).bind fun x18 =>
    (Pu.sub y3.2.1 1 y3.2.1.length).bind fun x19 =>
    some (Pu.Step.nx (y3.1, x17, x18, x19))
  else
    some (Pu.Step.br (s17.1, s17.2.1, s17.2.2.1, s17.2.2.2))
def P.mini_Min (φ : Nat) (a0 : Ty.api_Dfa) : Option (Ty.api_Dfa × Int) :=
  (P.dfa_Check a0).bind fun x1 =>
  if x1 ≠ 0 then
    some ((Ty.api_Dfa.mk 0 [] []), x1)
  else
    (P.mini_complete φ a0).bind fun x2 =>
    (P.mini_hopcroft φ x2).bind fun x3 =>
    (Pu.ix x3 (a0.Next.length : Int)).bind fun x4 =>
    (Pu.ix x3 a0.Start).bind fun x5 =>
    (Pu.whl (P.mini_Min.b0 φ a0 x2 x3 x4) φ ((Pu.mput x5 0 []), [], [], [a0.Start])).bind fun y1 =>
    y1.cs (fun s19 =>
      some ((Ty.api_Dfa.mk 0 s19.2.1 s19.2.2.1), 0)) (fun r => none)
/-! teach_way -/
def P.teach_way : Nat → ((List Ty.teach_pair)) → (Int) → Option (List Int)
  | 0, _, _ => none
  | φ + 1, a0, a1 =>
  (Pu.ix a0 a1).bind fun x1 =>
  if x1.from_ < 0 then
    some []
  else
    (Pu.ix a0 a1).bind fun x2 =>
    (P.teach_way φ a0 x2.from_).bind fun x3 =>
    (Pu.ix a0 a1).bind fun x4 =>
    (Pu.app 8 x3 [x4.by_]).bind fun x5 =>
    some x5
/-! teach_step -/
def P.teach_step (a0 : Ty.api_Dfa) (a1 : Int) (a2 : Int) : Option Int :=
  if a1 < 0 then
    some (-1)
  else
    (Pu.ix a0.Next a1).bind fun x1 =>
    (Pu.ix x1 a2).bind fun x2 =>
    some x2
/-! teach_Differ -/
def P.teach_Differ.b1 (a0 : Ty.api_Dfa) (a1 : Ty.api_Dfa) (s13 : ((List Ty.teach_pair) × (List ((Int × Int) × Bool)) × Int)) (x6 : Ty.teach_pair) (i11 : Int) (x11 : Int) (s25 : ((List Ty.teach_pair) × (List ((Int × Int) × Bool)))) : Option ((List Ty.teach_pair) × (List ((Int × Int) × Bool))) :=
  (P.teach_step a0 x6.a x11).bind fun x13 =>
  (P.teach_step a1 x6.b x11).bind fun x14 =>
  (if !((Pu.mget (x13, x14) s25.2).getD false) then
      (Pu.app 32 s25.1 [(Ty.teach_pair.mk x13 x14 s13.2.2 x11)]).bind fun x15 =>
      some (x15, (Pu.mput (x13, x14) true s25.2))
    else
      some (s25.1, s25.2)).bind fun y8 =>
  some (y8.1, y8.2)
def P.teach_Differ.b0 (φ : Nat) (a0 : Ty.api_Dfa) (a1 : Ty.api_Dfa) (s13 : ((List Ty.teach_pair) × (List ((Int × Int) × Bool)) × Int)) : Option (Pu.Step ((List Ty.teach_pair) × (List ((Int × Int) × Bool)) × Int) ((List Int) × Bool)) :=
  if s13.2.2 < (s13.1.length : Int) then
    (Pu.ix s13.1 s13.2.2).bind fun x6 =>
    (if decide (0 ≤ x6.a) then
        (Pu.ix a0.Accept x6.a).bind fun x7 =>
        some (decide (0 ≤ x7))
      else
        some false).bind fun y5 =>
    (if decide (0 ≤ x6.b) then
        (Pu.ix a1.Accept x6.b).bind fun x8 =>
        some (decide (0 ≤ x8))
      else
        some false).bind fun y6 =>
    if !(y5 == y6) then
      (P.teach_way φ s13.1 s13.2.2).bind fun x9 =>
      some (Pu.Step.rt (x9, true))
    else
      (Pu.ix a0.Next 0).bind fun x10 =>
      (Pu.ranO (x10.length : Int)).bind fun x12 =>
      (Pu.forP (P.teach_Differ.b1 a0 a1 s13 x6) 0 x12 (s13.1, s13.2.1)).bind fun y7 =>
      some (Pu.Step.nx (y7.1, y7.2, (Pu.W (s13.2.2 + 1))))
  else
    some (Pu.Step.br (s13.1, s13.2.1, s13.2.2))
def P.teach_Differ (φ : Nat) (a0 : Ty.api_Dfa) (a1 : Ty.api_Dfa) : Option ((List Int) × Bool) :=
  (P.dfa_Check a0).bind fun x1 =>
  (if decide (x1 ≠ 0) then
      some true
    else
      (P.dfa_Check a1).bind fun x2 =>
      some (decide (x2 ≠ 0))).bind fun y1 =>
  (if y1 then
      some true
    else
      (Pu.ix a0.Next 0).bind fun x3 =>
      (Pu.ix a1.Next 0).bind fun x4 =>
      some (decide ((x3.length : Int) ≠ (x4.length : Int)))).bind fun y2 =>
  if y2 then
    some ([], false)
  else
    (Pu.whl (P.teach_Differ.b0 φ a0 a1) φ ([(Ty.teach_pair.mk a0.Start a1.Start (-1) 0)], (Pu.mput (a0.Start, a1.Start) true []), 0)).bind fun y3 =>
    y3.cs (fun s15 =>
      some ([], false)) (fun r => some r)
/-! teach_Teacher_Equal -/
def P.teach_Teacher_Equal (φ : Nat) (a0 : Ty.teach_Teacher) (a1 : Ty.api_Dfa) : Option (Ty.teach_Teacher × Bool × (List Int) × Int) :=
  (P.dfa_Check a1).bind fun x1 =>
  if x1 ≠ 0 then
    some (a0, false, [], x1)
  else
    (Pu.ix a1.Next 0).bind fun x2 =>
    (P.teach_Teacher_Symbols a0).bind fun x3 =>
    if (x2.length : Int) ≠ x3 then
      some (a0, false, [], 1)
    else
      (P.teach_Differ φ a0.d a1).bind fun x4 =>
      some ((Ty.teach_Teacher.mk a0.d a0.members (Pu.W (a0.equal + 1))), !x4.2, x4.1, 0)
/-! dfa_Run -/
def P.dfa_Run.b1 (a0 : Ty.api_Dfa) (i7 : Int) (x4 : Int) (s10 : Int) : Option (Pu.Step Int (Int × Int)) :=
  (Pu.ix a0.Next s10).bind fun x5 =>
  (Pu.ix x5 x4).bind fun x6 =>
  if x6 < 0 then
    some (Pu.Step.rt ((-1), 0))
  else
    some (Pu.Step.nx x6)
def P.dfa_Run.b0 (a0 : Ty.api_Dfa) (i4 : Int) (x2 : Int) (s4 : Unit) : Option (Pu.Step Unit (Int × Int)) :=
  (if decide (x2 < 0) then
      some true
    else
      (Pu.ix a0.Next 0).bind fun x3 =>
      some (decide ((x3.length : Int) ≤ x2))).bind fun y3 =>
  if y3 then
    some (Pu.Step.rt (0, 1))
  else
    some (Pu.Step.nx ())
def P.dfa_Run (a0 : Ty.api_Dfa) (a1 : (List Int)) : Option (Int × Int) :=
  (P.dfa_Check a0).bind fun x1 =>
  if x1 ≠ 0 then
    some (0, x1)
  else
    if 4000 < (a1.length : Int) then
      some (0, 2)
    else
      (Pu.forL (P.dfa_Run.b0 a0) 0 a1 ()).bind fun y1 =>
      y1.cs (fun s6 =>
        (Pu.forL (P.dfa_Run.b1 a0) 0 a1 a0.Start).bind fun y4 =>
        y4.cs (fun s12 =>
          (Pu.ix a0.Accept s12).bind fun x7 =>
          some (x7, 0)) (fun r => some r)) (fun r => some r)
/-! parlkeep5_accepts -/
def P.parlkeep5_accepts (a0 : Ty.api_Dfa) (a1 : (List Int)) : Option Bool :=
  (P.dfa_Run a0 a1).bind fun x1 =>
  some ((decide (x1.2 = 0)) && (decide (0 ≤ x1.1)))
/-! parlkeep5_words -/
def P.parlkeep5_words.b2 (x3 : (List Int)) (i3 : Int) (x4 : Int) (s9 : (List (List Int))) : Option (List (List Int)) :=
  (P.slices_Clone_int_int x3).bind fun x6 =>
  (Pu.app 8 x6 [x4]).bind fun x7 =>
  (Pu.app 24 s9 [x7]).bind fun x8 =>
  some x8
def P.parlkeep5_words.b1 (a0 : Int) (i2 : Int) (x3 : (List Int)) (s5 : (List (List Int))) : Option (List (List Int)) :=
  (Pu.ranO a0).bind fun x5 =>
  (Pu.forP (P.parlkeep5_words.b2 x3) 0 x5 s5).bind fun y3 =>
  some y3
def P.parlkeep5_words.b0 (a0 : Int) (i1 : Int) (x1 : Int) (s2 : (List (List Int))) : Option (List (List Int)) :=
  (Pu.forP (P.parlkeep5_words.b1 a0) 0 s2 []).bind fun y2 =>
  some y2
def P.parlkeep5_words (a0 : Int) (a1 : Int) : Option (List (List Int)) :=
  (Pu.ranO a1).bind fun x2 =>
  (Pu.forP (P.parlkeep5_words.b0 a0) 0 x2 [[]]).bind fun y1 =>
  some y1
/-! slices_Equal_int_int -/
def P.slices_Equal_int_int.b0 (a0 : (List Int)) (a1 : (List Int)) (i1 : Int) (x1 : Int) (s1 : Unit) : Option (Pu.Step Unit Bool) :=
  (Pu.ix a0 x1).bind fun x3 =>
  (Pu.ix a1 x1).bind fun x4 =>
  if x3 ≠ x4 then
    some (Pu.Step.rt false)
  else
    some (Pu.Step.nx ())
def P.slices_Equal_int_int (a0 : (List Int)) (a1 : (List Int)) : Option Bool :=
  if (a0.length : Int) ≠ (a1.length : Int) then
    some false
  else
    (Pu.ranO (a0.length : Int)).bind fun x2 =>
    (Pu.forL (P.slices_Equal_int_int.b0 a0 a1) 0 x2 ()).bind fun y1 =>
    y1.cs (fun s3 =>
      some true) (fun r => some r)
/-! parlkeep5_TeachDiffers -/
def P.parlkeep5_TeachDiffers.b1 (x1 : Ty.api_Dfa) (x11 : (Ty.teach_Teacher × Bool × (List Int) × Int)) (x2 : Ty.api_Dfa) (i36 : Int) (x22 : (List Int)) (s72 : Unit) : Option (Pu.Step Unit (Pu.Step Unit Bool)) :=
  (P.slices_Equal_int_int x22 x11.2.2.1).bind fun x23 =>
  if x23 then
    (P.parlkeep5_accepts x1 x11.2.2.1).bind fun x24 =>
    (P.parlkeep5_accepts x2 x11.2.2.1).bind fun x25 =>
    some (Pu.Step.rt (Pu.Step.rt (!(x24 == x25))))
  else
    (P.parlkeep5_accepts x1 x22).bind fun x26 =>
    (P.parlkeep5_accepts x2 x22).bind fun x27 =>
    if !(x26 == x27) then
      some (Pu.Step.rt (Pu.Step.rt false))
    else
      some (Pu.Step.nx ())
def P.parlkeep5_TeachDiffers.b0 (x1 : Ty.api_Dfa) (x11 : (Ty.teach_Teacher × Bool × (List Int) × Int)) (x2 : Ty.api_Dfa) (i33 : Int) (x18 : Int) (s64 : Unit) : Option (Pu.Step Unit Bool) :=
  (P.teach_Teacher_Symbols x11.1).bind fun x20 =>
  (P.parlkeep5_words x20 x18).bind fun x21 =>
  (Pu.forL (P.parlkeep5_TeachDiffers.b1 x1 x11 x2) 0 x21 ()).bind fun y8 =>
  y8.cs (fun s74 =>
    some (Pu.Step.nx ())) (fun r => some r)
def P.parlkeep5_TeachDiffers (φ : Nat) (a0 : (List Int)) (a1 : (List Int)) : Option Bool :=
  (P.parlmake_Dfa a0).bind fun x1 =>
  (P.parlmake_Dfa a1).bind fun x2 =>
  (P.parlkeep5_ends).bind fun x3 =>
  (P.teach_New x3).bind fun x4 =>
  Pu.oc2 x4 (fun x5 =>
    some false) (fun y1 x5 =>
    (if ((decide (x5 ≠ 0)) || false) then
        some true
      else
        (P.teach_Teacher_Symbols y1).bind fun x6 =>
        some (decide (x6 ≠ 2))).bind fun y2 =>
    if y2 then
      some false
    else
      (P.teach_New x1).bind fun x7 =>
      Pu.oc2 x7 (fun x8 =>
        some false) (fun y3 x8 =>
        if ((decide (x8 ≠ 0)) || false) then
          some false
        else
          (P.mini_Min φ x1).bind fun x9 =>
          (P.teach_Teacher_Equal φ y3 x9.1).bind fun x10 =>
          if (((decide (x9.2 ≠ 0)) || (decide (x10.2.2.2 ≠ 0))) || (!x10.2.1)) then
            some false
          else
            (P.teach_Teacher_Equal φ x10.1 x2).bind fun x11 =>
            (Pu.ix x2.Next 0).bind fun x12 =>
            (P.teach_Teacher_Symbols x11.1).bind fun x13 =>
            if (x12.length : Int) ≠ x13 then
              some (decide (x11.2.2.2 = 1))
            else
              (if decide (x11.2.2.2 ≠ 0) then
                  some true
                else
                  if decide ((x11.2.2.1.length : Int) = 0) then
                    (P.parlkeep5_accepts x1 []).bind fun x14 =>
                    (P.parlkeep5_accepts x2 []).bind fun x15 =>
                    some (!(x11.2.1 == (x14 == x15)))
                  else
                    some (!(x11.2.1 == false))).bind fun y4 =>
              if y4 then
                some false
              else
                if (x11.2.1 || (decide (5 < (x11.2.2.1.length : Int)))) then
                  (if x11.2.1 then
                      some true
                    else
                      (P.parlkeep5_accepts x1 x11.2.2.1).bind fun x16 =>
                      (P.parlkeep5_accepts x2 x11.2.2.1).bind fun x17 =>
                      some (!(x16 == x17))).bind fun y5 =>
                  some y5
                else
                  (Pu.ranO (Pu.W ((x11.2.2.1.length : Int) + 1))).bind fun x19 =>
                  (Pu.forL (P.parlkeep5_TeachDiffers.b0 x1 x11 x2) 0 x19 ()).bind fun y6 =>
                  y6.cs (fun s66 =>
                    some false) (fun r => some r)))
end Go.Proofs.Ytmlnknngpdnepaa
