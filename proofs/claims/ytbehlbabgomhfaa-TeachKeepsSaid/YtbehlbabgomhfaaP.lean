/- Plain functions, printed by wip/tools/lift.py. -/
import Derived.Test.YtbehlbabgomhfaaTy
namespace Go.Proofs.Ytbehlbabgomhfaa
open Go Go.Ab
/-! parlmake_Below -/
def P.parlmake_Below (a0 : Int) (a1 : Int) : Option Int :=
  (Pu.rem a0 a1).bind fun x1 =>
  (if x1 < 0 then
      some (Pu.W (x1 + a1))
    else
      some x1).bind fun y1 =>
  some y1
/-! parlmake_stream_next -/
def P.parlmake_stream_next (a0 : Ty.parlmake_stream) (a1 : Int) : Option (Ty.parlmake_stream × Int) :=
  if (a0.l.length : Int) = 0 then
    some (a0, 0)
  else
    (Pu.ix a0.l 0).bind fun x1 =>
    (Pu.sub a0.l 1 a0.l.length).bind fun x2 =>
    (P.parlmake_Below x1 a1).bind fun x3 =>
    some ((Ty.parlmake_stream.mk x2), x3)
/-! parlmake_Dfa -/
def P.parlmake_Dfa.b1 (x1 : (Ty.parlmake_stream × Int)) (i8 : Int) (x8 : Int) (s24 : ((List Int) × (List Int))) : Option ((List Int) × (List Int)) :=
  (P.parlmake_stream_next (Ty.parlmake_stream.mk s24.1) (Pu.W ((Pu.W (1 + x1.2)) + 1))).bind fun x10 =>
  (Pu.app 8 s24.2 [(Pu.W (x10.2 - 1))]).bind fun x11 =>
  some (x10.1.l, x11)
def P.parlmake_Dfa.b0 (x1 : (Ty.parlmake_stream × Int)) (x2 : (Ty.parlmake_stream × Int)) (i5 : Int) (x4 : Int) (s14 : ((List Int) × (List Int) × (List (List Int)))) : Option ((List Int) × (List Int) × (List (List Int))) :=
  (P.parlmake_stream_next (Ty.parlmake_stream.mk s14.1) 3).bind fun x6 =>
  (Pu.app 8 s14.2.1 [(Pu.W (x6.2 - 1))]).bind fun x7 =>
  (Pu.ranO (Pu.W (1 + x2.2))).bind fun x9 =>
  (Pu.forP (P.parlmake_Dfa.b1 x1) 0 x9 (x6.1.l, [])).bind fun y2 =>
  (Pu.app 24 s14.2.2 [y2.2]).bind fun x12 =>
  some (y2.1, x7, x12)
def P.parlmake_Dfa (a0 : (List Int)) : Option Ty.api_Dfa :=
  (P.parlmake_stream_next (Ty.parlmake_stream.mk a0) 6).bind fun x1 =>
  (P.parlmake_stream_next x1.1 3).bind fun x2 =>
  (P.parlmake_stream_next x2.1 (Pu.W (1 + x1.2))).bind fun x3 =>
  (Pu.ranO (Pu.W (1 + x1.2))).bind fun x5 =>
  (Pu.forP (P.parlmake_Dfa.b0 x1 x2) 0 x5 (x3.1.l, [], [])).bind fun y1 =>
  some (Ty.api_Dfa.mk x3.2 y1.2.1 y1.2.2)
/-! dfa_Check -/
def P.dfa_Check.b2 (a0 : Ty.api_Dfa) (i9 : Int) (x5 : Int) (s14 : Unit) : Option (Pu.Step Unit (Pu.Step Unit Int)) :=
  if ((decide (x5 < (-1))) || (decide ((a0.Next.length : Int) ≤ x5))) then
    some (Pu.Step.rt (Pu.Step.rt 1))
  else
    some (Pu.Step.nx ())
def P.dfa_Check.b1 (a0 : Ty.api_Dfa) (i7 : Int) (x3 : (List Int)) (s10 : Unit) : Option (Pu.Step Unit Int) :=
  (Pu.ix a0.Accept (i7 : Int)).bind fun x4 =>
  if x4 < (-1) then
    some (Pu.Step.rt 1)
  else
    (Pu.forL (P.dfa_Check.b2 a0) 0 x3 ()).bind fun y5 =>
    y5.cs (fun s16 =>
      some (Pu.Step.nx ())) (fun r => some r)
def P.dfa_Check.b0 (x1 : (List Int)) (i3 : Int) (x2 : (List Int)) (s3 : Unit) : Option (Pu.Step Unit Int) :=
  if ((decide ((x2.length : Int) ≠ (x1.length : Int))) || (decide ((x1.length : Int) = 0))) then
    some (Pu.Step.rt 3)
  else
    some (Pu.Step.nx ())
def P.dfa_Check (a0 : Ty.api_Dfa) : Option Int :=
  if 200 < (a0.Next.length : Int) then
    some 2
  else
    if ((decide ((a0.Next.length : Int) = 0)) || (decide ((a0.Accept.length : Int) ≠ (a0.Next.length : Int)))) then
      some 3
    else
      (Pu.ix a0.Next 0).bind fun x1 =>
      if 16 < (x1.length : Int) then
        some 2
      else
        (Pu.forL (P.dfa_Check.b0 x1) 0 a0.Next ()).bind fun y1 =>
        y1.cs (fun s5 =>
          if ((decide (a0.Start < 0)) || (decide ((a0.Next.length : Int) ≤ a0.Start))) then
            some 1
          else
            (Pu.forL (P.dfa_Check.b1 a0) 0 a0.Next ()).bind fun y3 =>
            y3.cs (fun s12 =>
              some 0) (fun r => some r)) (fun r => some r)
/-! teach_New -/
def P.teach_New.b0 (i5 : Int) (x3 : (List Int)) (s8 : (List (List Int))) : Option (List (List Int)) :=
  (Pu.app 8 [] x3).bind fun x4 =>
  (Pu.app 24 s8 [x4]).bind fun x5 =>
  some x5
def P.teach_New (a0 : Ty.api_Dfa) : Option ((Option Ty.teach_Teacher) × Int) :=
  (P.dfa_Check a0).bind fun x1 =>
  if x1 ≠ 0 then
    some (none, x1)
  else
    (Pu.app 8 [] a0.Accept).bind fun x2 =>
    (Pu.forP (P.teach_New.b0) 0 a0.Next []).bind fun y1 =>
    some ((some (Ty.teach_Teacher.mk (Ty.api_Dfa.mk a0.Start x2 y1) 0 0)), 0)
/-! teach_Teacher_Symbols -/
def P.teach_Teacher_Symbols (a0 : Ty.teach_Teacher) : Option Int :=
  (Pu.ix a0.d.Next 0).bind fun x1 =>
  some (x1.length : Int)
/-! parlmake_Word -/
def P.parlmake_Word.b0 (a0 : Int) (a1 : Int) (i1 : Int) (x1 : Int) (s1 : (List Int)) : Option (Pu.Step (List Int) Unit) :=
  if (s1.length : Int) = a1 then
    some (Pu.Step.br s1)
  else
    (P.parlmake_Below x1 a0).bind fun x2 =>
    (Pu.app 8 s1 [x2]).bind fun x3 =>
    some (Pu.Step.nx x3)
def P.parlmake_Word (a0 : Int) (a1 : Int) (a2 : (List Int)) : Option (List Int) :=
  (Pu.forL (P.parlmake_Word.b0 a0 a1) 0 a2 []).bind fun y1 =>
  y1.cs (fun s3 =>
    some s3) (fun r => none)
/-! dfa_Run -/
def P.dfa_Run.b1 (a0 : Ty.api_Dfa) (i7 : Int) (x4 : Int) (s10 : Int) : Option (Pu.Step Int (Int × Int)) :=
  (Pu.ix a0.Next s10).bind fun x5 =>
  (Pu.ix x5 x4).bind fun x6 =>
  if x6 < 0 then
    some (Pu.Step.rt ((-1), 0))
  else
    some (Pu.Step.nx x6)
def P.dfa_Run.b0 (a0 : Ty.api_Dfa) (i4 : Int) (x2 : Int) (s4 : Unit) : Option (Pu.Step Unit (Int × Int)) :=
  (if decide (x2 < 0) then
      some true
    else
      (Pu.ix a0.Next 0).bind fun x3 =>
      some (decide ((x3.length : Int) ≤ x2))).bind fun y3 =>
  if y3 then
    some (Pu.Step.rt (0, 1))
  else
    some (Pu.Step.nx ())
def P.dfa_Run (a0 : Ty.api_Dfa) (a1 : (List Int)) : Option (Int × Int) :=
  (P.dfa_Check a0).bind fun x1 =>
  if x1 ≠ 0 then
    some (0, x1)
  else
    if 4000 < (a1.length : Int) then
      some (0, 2)
    else
      (Pu.forL (P.dfa_Run.b0 a0) 0 a1 ()).bind fun y1 =>
      y1.cs (fun s6 =>
        (Pu.forL (P.dfa_Run.b1 a0) 0 a1 a0.Start).bind fun y4 =>
        y4.cs (fun s12 =>
          (Pu.ix a0.Accept s12).bind fun x7 =>
          some (x7, 0)) (fun r => some r)) (fun r => some r)
/-! parlkeep5_accepts -/
def P.parlkeep5_accepts (a0 : Ty.api_Dfa) (a1 : (List Int)) : Option Bool :=
  (P.dfa_Run a0 a1).bind fun x1 =>
  some ((decide (x1.2 = 0)) && (decide (0 ≤ x1.1)))
/-! teach_Teacher_Member -/
def P.teach_Teacher_Member (a0 : Ty.teach_Teacher) (a1 : (List Int)) : Option (Ty.teach_Teacher × Bool × Int) :=
  if 2000 < (a1.length : Int) then
    some (a0, false, 2)
  else
    (P.dfa_Run a0.d a1).bind fun x1 =>
    if x1.2 ≠ 0 then
      some (a0, false, x1.2)
    else
      some ((Ty.teach_Teacher.mk a0.d (Pu.W (a0.members + 1)) a0.equal), decide (0 ≤ x1.1), 0)
/-! teach_Teacher_Asked -/
def P.teach_Teacher_Asked (a0 : Ty.teach_Teacher) : Option (Int × Int) :=
  some (a0.members, a0.equal)
/-! parlkeep5_TeachKeeps -/
def P.parlkeep5_TeachKeeps.b0 (i13 : Int) (x9 : Int) (s25 : ((List Int) × (List (List Int)))) : Option ((List Int) × (List (List Int))) :=
  (Pu.ix s25.1 x9).bind fun x11 =>
  (Pu.ix s25.1 x9).bind fun x12 =>
  (Pu.ix s25.2 x9).bind fun x13 =>
  some ((Pu.st s25.1 x9 (Pu.W ((-1) - x11))), (Pu.st s25.2 x9 (Pu.clr x13 0)))
def P.parlkeep5_TeachKeeps (a0 : (List Int)) (a1 : (List Int)) : Option Bool :=
  (P.parlmake_Dfa a0).bind fun x1 =>
  (P.teach_New x1).bind fun x2 =>
  Pu.oc2 x2 (fun x3 =>
    (if decide (x3 ≠ 0) then
        some ()
      else
        some ()).bind fun y2 =>
    some false) (fun y1 x3 =>
    (if decide (x3 ≠ 0) then
        some true
      else
        (P.teach_Teacher_Symbols y1).bind fun x4 =>
        (Pu.ix x1.Next 0).bind fun x5 =>
        some (decide (x4 ≠ (x5.length : Int)))).bind fun y3 =>
    if y3 then
      some false
    else
      (P.teach_Teacher_Symbols y1).bind fun x6 =>
      (P.parlmake_Word x6 20 a1).bind fun x7 =>
      (P.parlkeep5_accepts x1 x7).bind fun x8 =>
      (Pu.ranO (x1.Accept.length : Int)).bind fun x10 =>
      (Pu.forP (P.parlkeep5_TeachKeeps.b0) 0 x10 (x1.Accept, x1.Next)).bind fun y4 =>
      (P.teach_Teacher_Member y1 x7).bind fun x14 =>
      (P.teach_Teacher_Asked x14.1).bind fun x15 =>
      some ((((decide (x14.2.2 = 0)) && (x8 == x14.2.1)) && (decide (x15.1 = 1))) && (decide (x15.2 = 0))))
end Go.Proofs.Ytbehlbabgomhfaa
