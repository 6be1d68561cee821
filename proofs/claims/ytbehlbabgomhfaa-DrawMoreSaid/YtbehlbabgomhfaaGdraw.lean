/- The abstract code of package draw, written by wip/tools/gen.py from the translation. -/
import Derived.Test.YtbehlbabgomhfaaI
namespace Go.Proofs.Ytbehlbabgomhfaa
open Go Go.Ab
/-! parlance/draw.Number -/
def F.draw_Number.r0 : List DOp := [
 Dd 4 (.mv (.const (.int .i64 0))),
 Dd 5 (.mv (.const (.int .i64 0))),
 Dd 6 (.mv (.const (.int .i64 0)))]
def F.draw_Number.r1 : List DOp := [
 Dd 12 (.mv (.tmp 0)),
 Dd 13 (.bin .lss (.tmp 12) (.const (.int .i64 1))),
 Dd 14 (.mv (.tmp 13)),
 ⟨some 15, .mv (.tmp 0), (some (14, false)), []⟩,
 ⟨some 16, .bin .gtr (.tmp 15) (.const (.int .i64 1000000000)), (some (14, false)), []⟩,
 Dd 17 (.pick (.tmp 14) (.const (.bool true)) (.tmp 16))]
def F.draw_Number.r2 : List DOp := [
 Dd 4 (.mv (.const (.int .i64 0))),
 Dd 5 (.mv (.const (.int .i64 0))),
 Dd 6 (.mv (.const (.int .i64 1)))]
def F.draw_Number.r3 : List DOp := [
 Dd 7 (.mv (.const (.int .i64 0)))]
def F.draw_Number.r4 : List DOp := [
 Dd 18 (.mv (.tmp 7)),
 Dd 19 (.bin .shl (.const (.int .i64 1)) (.tmp 18)),
 Dd 20 (.mv (.tmp 0)),
 Dd 21 (.bin .lss (.tmp 19) (.tmp 20))]
def F.draw_Number.r5 : List DOp := [
 Dd 22 (.mv (.tmp 7)),
 Dd 23 (.bin .add (.tmp 22) (.const (.int .i64 1))),
 Dd 7 (.mv (.tmp 23))]
def F.draw_Number.L0 : ACode := .seq (.seq (.region F.draw_Number.r4) (.cond (.tmp 21) (.skip) (.exit 0))) (.block 1 (.region F.draw_Number.r5))
def F.draw_Number.r6 : List DOp := [
 Dd 8 (.mv (.const (.int .i64 0)))]
def F.draw_Number.r7 : List DOp := [
 Dd 24 (.mv (.tmp 8)),
 Dd 25 (.mv (.tmp 7)),
 Dd 26 (.bin .add (.tmp 24) (.tmp 25)),
 Dd 27 (.mv (.tmp 1)),
 Dd 28 (.len (.tmp 27)),
 Dd 29 (.bin .leq (.tmp 26) (.tmp 28))]
def F.draw_Number.r8 : List DOp := [
 Dd 9 (.mv (.const (.int .i64 0)))]
def F.draw_Number.r9 : List DOp := [
 Dd 30 (.mv (.tmp 1)),
 Dd 31 (.mv (.tmp 8)),
 Dd 32 (.mv (.tmp 8)),
 Dd 33 (.mv (.tmp 7)),
 Dd 34 (.bin .add (.tmp 32) (.tmp 33)),
 Dd 35 (.slice 1 (.tmp 30) (some (.tmp 31)) (some (.tmp 34))),
 Dd 36 (.len (.tmp 35)),
 Dd 37 (.mv (.const (.int .i64 0)))]
def F.draw_Number.r10 : List DOp := [
 Dd 38 (.bin .lss (.tmp 37) (.tmp 36))]
def F.draw_Number.r11 : List DOp := [
 Dd 39 (.idxs 1 (.tmp 35) (.tmp 37)),
 Dd 40 (.load 1 false (.tmp 39)),
 Dd 11 (.mv (.tmp 40))]
def F.draw_Number.r12 : List DOp := [
 Dd 41 (.mv (.tmp 9)),
 Dd 42 (.bin .mul (.tmp 41) (.const (.int .i64 2))),
 Dd 9 (.mv (.tmp 42))]
def F.draw_Number.r13 : List DOp := [
 Dd 43 (.mv (.tmp 11))]
def F.draw_Number.r14 : List DOp := [
 Dd 44 (.mv (.tmp 9)),
 Dd 45 (.bin .add (.tmp 44) (.const (.int .i64 1))),
 Dd 9 (.mv (.tmp 45))]
def F.draw_Number.r15 : List DOp := [
 Dd 46 (.bin .add (.tmp 37) (.const (.int .i64 1))),
 Dd 37 (.mv (.tmp 46))]
def F.draw_Number.L2 : ACode := .seq (.region F.draw_Number.r10) (.seq (.cond (.tmp 38) (.skip) (.exit 4)) (.seq (.block 5 (.seq (.region F.draw_Number.r11) (.seq (.region F.draw_Number.r12) (.seq (.region F.draw_Number.r13) (.cond (.tmp 43) (.region F.draw_Number.r14) (.skip)))))) (.region F.draw_Number.r15)))
def F.draw_Number.r16 : List DOp := [
 Dd 47 (.mv (.tmp 8)),
 Dd 48 (.mv (.tmp 7)),
 Dd 49 (.bin .add (.tmp 47) (.tmp 48)),
 Dd 8 (.mv (.tmp 49))]
def F.draw_Number.r17 : List DOp := [
 Dd 50 (.mv (.tmp 9)),
 Dd 51 (.mv (.tmp 0)),
 Dd 52 (.bin .lss (.tmp 50) (.tmp 51))]
def F.draw_Number.r18 : List DOp := [
 Dd 53 (.mv (.tmp 9)),
 Dd 54 (.mv (.tmp 8)),
 Dd 4 (.mv (.tmp 53)),
 Dd 5 (.mv (.tmp 54)),
 Dd 6 (.mv (.const (.int .i64 0)))]
def F.draw_Number.L1 : ACode := .seq (.seq (.region F.draw_Number.r7) (.cond (.tmp 29) (.skip) (.exit 2))) (.block 3 (.seq (.region F.draw_Number.r8) (.seq (.seq (.region F.draw_Number.r9) (.block 4 (.loop F.draw_Number.L2))) (.seq (.region F.draw_Number.r16) (.seq (.region F.draw_Number.r17) (.cond (.tmp 52) (.seq (.region F.draw_Number.r18) (.ret)) (.skip)))))))
def F.draw_Number.r19 : List DOp := [
 Dd 4 (.mv (.const (.int .i64 0))),
 Dd 5 (.mv (.const (.int .i64 0))),
 Dd 6 (.mv (.const (.int .i64 5)))]
def F.draw_Number.c : ACode := .seq (.region F.draw_Number.r0) (.seq (.seq (.region F.draw_Number.r1) (.cond (.tmp 17) (.seq (.region F.draw_Number.r2) (.ret)) (.skip))) (.seq (.region F.draw_Number.r3) (.seq (.block 0 (.loop F.draw_Number.L0)) (.seq (.seq (.region F.draw_Number.r6) (.block 2 (.loop F.draw_Number.L1))) (.seq (.region F.draw_Number.r19) (.ret))))))
def F.draw_Number : AFunc := ⟨F.draw_Number.c, [.tmp 4, .tmp 5, .tmp 6]⟩
end Go.Proofs.Ytbehlbabgomhfaa
