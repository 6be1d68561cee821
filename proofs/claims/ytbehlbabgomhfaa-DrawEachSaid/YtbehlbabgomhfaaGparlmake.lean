/- The abstract code of package parlmake, written by wip/tools/gen.py from the translation. -/
import Derived.Test.YtbehlbabgomhfaaI
namespace Go.Proofs.Ytbehlbabgomhfaa
open Go Go.Ab
/-! parlance/parlmake.Below -/
def F.parlmake_Below.r0 : List DOp := [
 Dd 4 (.mv (.const (.int .i64 0)))]
def F.parlmake_Below.r1 : List DOp := [
 Dd 5 (.mv (.tmp 0)),
 Dd 6 (.mv (.tmp 1)),
 Dd 7 (.bin .rem (.tmp 5) (.tmp 6)),
 Dd 0 (.mv (.tmp 7))]
def F.parlmake_Below.r2 : List DOp := [
 Dd 8 (.mv (.tmp 0)),
 Dd 9 (.bin .lss (.tmp 8) (.const (.int .i64 0)))]
def F.parlmake_Below.r3 : List DOp := [
 Dd 10 (.mv (.tmp 0)),
 Dd 11 (.mv (.tmp 1)),
 Dd 12 (.bin .add (.tmp 10) (.tmp 11)),
 Dd 0 (.mv (.tmp 12))]
def F.parlmake_Below.r4 : List DOp := [
 Dd 13 (.mv (.tmp 0)),
 Dd 4 (.mv (.tmp 13))]
def F.parlmake_Below.c : ACode := .seq (.region F.parlmake_Below.r0) (.seq (.region F.parlmake_Below.r1) (.seq (.seq (.region F.parlmake_Below.r2) (.cond (.tmp 9) (.region F.parlmake_Below.r3) (.skip))) (.seq (.region F.parlmake_Below.r4) (.ret))))
def F.parlmake_Below : AFunc := ⟨F.parlmake_Below.c, [.tmp 4]⟩
end Go.Proofs.Ytbehlbabgomhfaa
