/- The abstract code of package cmp, written by wip/tools/gen.py from the translation. -/
import Derived.Test.YtbehlbabgomhfaaI
namespace Go.Proofs.Ytbehlbabgomhfaa
open Go Go.Ab
/-! cmp.isNaN[int] -/
def F.cmp_isNaN_int.r0 : List DOp := [
 Dd 2 (.mv (.const (.bool false)))]
def F.cmp_isNaN_int.r1 : List DOp := [
 Dd 3 (.mv (.tmp 0)),
 Dd 4 (.mv (.tmp 0)),
 Dd 5 (.bin .neq (.tmp 3) (.tmp 4)),
 Dd 2 (.mv (.tmp 5))]
def F.cmp_isNaN_int.c : ACode := .seq (.region F.cmp_isNaN_int.r0) (.seq (.region F.cmp_isNaN_int.r1) (.ret))
def F.cmp_isNaN_int : AFunc := ⟨F.cmp_isNaN_int.c, [.tmp 2]⟩
/-! cmp.Less[int] -/
def F.cmp_Less_int.r0 : List DOp := [
 Dd 4 (.mv (.const (.bool false)))]
def F.cmp_Less_int.r1 : List DOp := [
 Dd 5 (.mv (.tmp 0)),
 Dd 6 (.call I.cmp_isNaN_int [.tmp 5]),
 Dd 7 (.mv (.tmp 6)),
 ⟨some 8, .mv (.tmp 1), (some (7, true)), []⟩,
 ⟨some 9, .call I.cmp_isNaN_int [.tmp 8], (some (7, true)), []⟩,
 ⟨some 10, .un .not (.tmp 9), (some (7, true)), []⟩,
 Dd 11 (.pick (.tmp 7) (.tmp 10) (.const (.bool false))),
 Dd 12 (.mv (.tmp 11)),
 ⟨some 13, .mv (.tmp 0), (some (12, false)), []⟩,
 ⟨some 14, .mv (.tmp 1), (some (12, false)), []⟩,
 ⟨some 15, .bin .lss (.tmp 13) (.tmp 14), (some (12, false)), []⟩,
 Dd 16 (.pick (.tmp 12) (.const (.bool true)) (.tmp 15)),
 Dd 4 (.mv (.tmp 16))]
def F.cmp_Less_int.c : ACode := .seq (.region F.cmp_Less_int.r0) (.seq (.region F.cmp_Less_int.r1) (.ret))
def F.cmp_Less_int : AFunc := ⟨F.cmp_Less_int.c, [.tmp 4]⟩
end Go.Proofs.Ytbehlbabgomhfaa
