/- The abstract code of package draw, written by wip/tools/gen.py from the translation. -/
import Derived.Test.YtbehlbabgomhfaaI
namespace Go.Proofs.Ytbehlbabgomhfaa
open Go Go.Ab
/-! parlance/draw.Number -/
def F.draw_Number.r0 : List DOp := [
 Dd 4 (.mv (.const (.int .i64 0))),
 Dd 5 (.mv (.const (.int .i64 0))),
 Dd 6 (.mv (.const (.int .i64 0)))]
def F.draw_Number.r1 : List DOp := [
 Dd 12 (.mv (.tmp 0)),
 Dd 13 (.bin .lss (.tmp 12) (.const (.int .i64 1))),
 Dd 14 (.mv (.tmp 13)),
 ⟨some 15, .mv (.tmp 0), (some (14, false)), []⟩,
 ⟨some 16, .bin .gtr (.tmp 15) (.const (.int .i64 1000000000)), (some (14, false)), []⟩,
 Dd 17 (.pick (.tmp 14) (.const (.bool true)) (.tmp 16))]
def F.draw_Number.r2 : List DOp := [
 Dd 4 (.mv (.const (.int .i64 0))),
 Dd 5 (.mv (.const (.int .i64 0))),
 Dd 6 (.mv (.const (.int .i64 1)))]
def F.draw_Number.r3 : List DOp := [
 Dd 7 (.mv (.const (.int .i64 0)))]
def F.draw_Number.r4 : List DOp := [
 Dd 18 (.mv (.tmp 7)),
 Dd 19 (.bin .shl (.const (.int .i64 1)) (.tmp 18)),
 Dd 20 (.mv (.tmp 0)),
 Dd 21 (.bin .lss (.tmp 19) (.tmp 20))]
def F.draw_Number.r5 : List DOp := [
 Dd 22 (.mv (.tmp 7)),
 Dd 23 (.bin .add (.tmp 22) (.const (.int .i64 1))),
 Dd 7 (.mv (.tmp 23))]
def F.draw_Number.L0 : ACode := .seq (.seq (.region F.draw_Number.r4) (.cond (.tmp 21) (.skip) (.exit 0))) (.block 1 (.region F.draw_Number.r5))
def F.draw_Number.r6 : List DOp := [
 Dd 8 (.mv (.const (.int .i64 0)))]
def F.draw_Number.r7 : List DOp := [
 Dd 24 (.mv (.tmp 8)),
 Dd 25 (.mv (.tmp 7)),
 Dd 26 (.bin .add (.tmp 24) (.tmp 25)),
 Dd 27 (.mv (.tmp 1)),
 Dd 28 (.len (.tmp 27)),
 Dd 29 (.bin .leq (.tmp 26) (.tmp 28))]
def F.draw_Number.r8 : List DOp := [
 Dd 9 (.mv (.const (.int .i64 0)))]
def F.draw_Number.r9 : List DOp := [
 Dd 30 (.mv (.tmp 1)),
 Dd 31 (.mv (.tmp 8)),
 Dd 32 (.mv (.tmp 8)),
 Dd 33 (.mv (.tmp 7)),
 Dd 34 (.bin .add (.tmp 32) (.tmp 33)),
 Dd 35 (.slice 1 (.tmp 30) (some (.tmp 31)) (some (.tmp 34))),
 Dd 36 (.len (.tmp 35)),
 Dd 37 (.mv (.const (.int .i64 0)))]
def F.draw_Number.r10 : List DOp := [
 Dd 38 (.bin .lss (.tmp 37) (.tmp 36))]
def F.draw_Number.r11 : List DOp := [
 Dd 39 (.idxs 1 (.tmp 35) (.tmp 37)),
 Dd 40 (.load 1 false (.tmp 39)),
 Dd 11 (.mv (.tmp 40))]
def F.draw_Number.r12 : List DOp := [
 Dd 41 (.mv (.tmp 9)),
 Dd 42 (.bin .mul (.tmp 41) (.const (.int .i64 2))),
 Dd 9 (.mv (.tmp 42))]
def F.draw_Number.r13 : List DOp := [
 Dd 43 (.mv (.tmp 11))]
def F.draw_Number.r14 : List DOp := [
 Dd 44 (.mv (.tmp 9)),
 Dd 45 (.bin .add (.tmp 44) (.const (.int .i64 1))),
 Dd 9 (.mv (.tmp 45))]
def F.draw_Number.r15 : List DOp := [
 Dd 46 (.bin .add (.tmp 37) (.const (.int .i64 1))),
 Dd 37 (.mv (.tmp 46))]
def F.draw_Number.L2 : ACode := .seq (.region F.draw_Number.r10) (.seq (.cond (.tmp 38) (.skip) (.exit 4)) (.seq (.block 5 (.seq (.region F.draw_Number.r11) (.seq (.region F.draw_Number.r12) (.seq (.region F.draw_Number.r13) (.cond (.tmp 43) (.region F.draw_Number.r14) (.skip)))))) (.region F.draw_Number.r15)))
def F.draw_Number.r16 : List DOp := [
 Dd 47 (.mv (.tmp 8)),
 Dd 48 (.mv (.tmp 7)),
 Dd 49 (.bin .add (.tmp 47) (.tmp 48)),
 Dd 8 (.mv (.tmp 49))]
def F.draw_Number.r17 : List DOp := [
 Dd 50 (.mv (.tmp 9)),
 Dd 51 (.mv (.tmp 0)),
 Dd 52 (.bin .lss (.tmp 50) (.tmp 51))]
def F.draw_Number.r18 : List DOp := [
 Dd 53 (.mv (.tmp 9)),
 Dd 54 (.mv (.tmp 8)),
 Dd 4 (.mv (.tmp 53)),
 Dd 5 (.mv (.tmp 54)),
 Dd 6 (.mv (.const (.int .i64 0)))]
def F.draw_Number.L1 : ACode := .seq (.seq (.region F.draw_Number.r7) (.cond (.tmp 29) (.skip) (.exit 2))) (.block 3 (.seq (.region F.draw_Number.r8) (.seq (.seq (.region F.draw_Number.r9) (.block 4 (.loop F.draw_Number.L2))) (.seq (.region F.draw_Number.r16) (.seq (.region F.draw_Number.r17) (.cond (.tmp 52) (.seq (.region F.draw_Number.r18) (.ret)) (.skip)))))))
def F.draw_Number.r19 : List DOp := [
 Dd 4 (.mv (.const (.int .i64 0))),
 Dd 5 (.mv (.const (.int .i64 0))),
 Dd 6 (.mv (.const (.int .i64 5)))]
def F.draw_Number.c : ACode := .seq (.region F.draw_Number.r0) (.seq (.seq (.region F.draw_Number.r1) (.cond (.tmp 17) (.seq (.region F.draw_Number.r2) (.ret)) (.skip))) (.seq (.region F.draw_Number.r3) (.seq (.block 0 (.loop F.draw_Number.L0)) (.seq (.seq (.region F.draw_Number.r6) (.block 2 (.loop F.draw_Number.L1))) (.seq (.region F.draw_Number.r19) (.ret))))))
def F.draw_Number : AFunc := ⟨F.draw_Number.c, [.tmp 4, .tmp 5, .tmp 6]⟩
/-! parlance/draw.Order -/
def F.draw_Order.r0 : List DOp := [
 Dd 4 (.mv (.const (.slice none 0 0))),
 Dd 5 (.mv (.const (.int .i64 0))),
 Dd 6 (.mv (.const (.int .i64 0)))]
def F.draw_Order.r1 : List DOp := [
 Dd 14 (.mv (.tmp 0)),
 Dd 15 (.bin .lss (.tmp 14) (.const (.int .i64 0))),
 Dd 16 (.mv (.tmp 15)),
 ⟨some 17, .mv (.tmp 0), (some (16, false)), []⟩,
 ⟨some 18, .bin .gtr (.tmp 17) (.const (.int .i64 100)), (some (16, false)), []⟩,
 Dd 19 (.pick (.tmp 16) (.const (.bool true)) (.tmp 18))]
def F.draw_Order.r2 : List DOp := [
 Dd 4 (.mv (.const (.slice none 0 0))),
 Dd 5 (.mv (.const (.int .i64 0))),
 Dd 6 (.mv (.const (.int .i64 1)))]
def F.draw_Order.r3 : List DOp := [
 Dd 7 (.mv (.const (.slice none 0 0))),
 Dd 8 (.mv (.const (.slice none 0 0)))]
def F.draw_Order.r4 : List DOp := [
 Dd 20 (.mv (.tmp 0)),
 Dd 21 (.mv (.const (.int .i64 0)))]
def F.draw_Order.r5 : List DOp := [
 Dd 22 (.bin .lss (.tmp 21) (.tmp 20))]
def F.draw_Order.r6 : List DOp := [
 Dd 23 (.mv (.tmp 21)),
 Dd 9 (.mv (.tmp 23))]
def F.draw_Order.r7 : List DOp := [
 Dd 24 (.mv (.tmp 7)),
 Dd 25 (.mv (.tmp 9)),
 Dd 26 (.bslice 1 1 [.int .i64 0] [(0, 1, .tmp 25)]),
 Dd 27 (.append 1 8 (.tmp 24) (.tmp 26)),
 Dd 7 (.mv (.tmp 27))]
def F.draw_Order.r8 : List DOp := [
 Dd 28 (.bin .add (.tmp 21) (.const (.int .i64 1))),
 Dd 21 (.mv (.tmp 28))]
def F.draw_Order.L0 : ACode := .seq (.region F.draw_Order.r5) (.seq (.cond (.tmp 22) (.skip) (.exit 0)) (.seq (.block 1 (.seq (.region F.draw_Order.r6) (.region F.draw_Order.r7))) (.region F.draw_Order.r8)))
def F.draw_Order.r9 : List DOp := [
 Dd 10 (.mv (.const (.int .i64 0)))]
def F.draw_Order.r10 : List DOp := [
 Dd 29 (.mv (.tmp 7)),
 Dd 30 (.len (.tmp 29)),
 Dd 31 (.bin .gtr (.tmp 30) (.const (.int .i64 0)))]
def F.draw_Order.r11 : List DOp := [
 Dd 33 (.mv (.tmp 7)),
 Dd 34 (.len (.tmp 33)),
 Dd 35 (.mv (.tmp 1)),
 Dd 36 (.mv (.tmp 10)),
 Dd 37 (.slice 1 (.tmp 35) (some (.tmp 36)) none),
 Dd 38 (.call I.draw_Number [.tmp 34, .tmp 37]),
 Dd 32 (.mv (.tmp 38)),
 Dd 39 (.extract (.tmp 32) 0),
 Dd 40 (.extract (.tmp 32) 1),
 Dd 41 (.extract (.tmp 32) 2),
 Dd 11 (.mv (.tmp 39)),
 Dd 12 (.mv (.tmp 40)),
 Dd 13 (.mv (.tmp 41))]
def F.draw_Order.r12 : List DOp := [
 Dd 42 (.mv (.tmp 13)),
 Dd 43 (.bin .neq (.tmp 42) (.const (.int .i64 0)))]
def F.draw_Order.r13 : List DOp := [
 Dd 44 (.mv (.tmp 13)),
 Dd 4 (.mv (.const (.slice none 0 0))),
 Dd 5 (.mv (.const (.int .i64 0))),
 Dd 6 (.mv (.tmp 44))]
def F.draw_Order.r14 : List DOp := [
 Dd 45 (.mv (.tmp 10)),
 Dd 46 (.mv (.tmp 12)),
 Dd 47 (.bin .add (.tmp 45) (.tmp 46)),
 Dd 10 (.mv (.tmp 47))]
def F.draw_Order.r15 : List DOp := [
 Dd 48 (.mv (.tmp 8)),
 Dd 49 (.mv (.tmp 7)),
 Dd 50 (.mv (.tmp 11)),
 Dd 51 (.idxs 1 (.tmp 49) (.tmp 50)),
 Dd 52 (.load 1 false (.tmp 51)),
 Dd 53 (.bslice 1 1 [.int .i64 0] [(0, 1, .tmp 52)]),
 Dd 54 (.append 1 8 (.tmp 48) (.tmp 53)),
 Dd 8 (.mv (.tmp 54))]
def F.draw_Order.r16 : List DOp := [
 Dd 55 (.mv (.tmp 7)),
 Dd 56 (.mv (.tmp 11)),
 Dd 57 (.slice 1 (.tmp 55) none (some (.tmp 56))),
 Dd 58 (.mv (.tmp 7)),
 Dd 59 (.mv (.tmp 11)),
 Dd 60 (.bin .add (.tmp 59) (.const (.int .i64 1))),
 Dd 61 (.slice 1 (.tmp 58) (some (.tmp 60)) none),
 Dd 62 (.append 1 8 (.tmp 57) (.tmp 61)),
 Dd 7 (.mv (.tmp 62))]
def F.draw_Order.L1 : ACode := .seq (.seq (.region F.draw_Order.r10) (.cond (.tmp 31) (.skip) (.exit 2))) (.block 3 (.seq (.region F.draw_Order.r11) (.seq (.seq (.region F.draw_Order.r12) (.cond (.tmp 43) (.seq (.region F.draw_Order.r13) (.ret)) (.skip))) (.seq (.region F.draw_Order.r14) (.seq (.region F.draw_Order.r15) (.draw F.draw_Order.r16 []))))))
def F.draw_Order.r17 : List DOp := [
 Dd 63 (.mv (.tmp 8)),
 Dd 64 (.mv (.tmp 10)),
 Dd 4 (.mv (.tmp 63)),
 Dd 5 (.mv (.tmp 64)),
 Dd 6 (.mv (.const (.int .i64 0)))]
def F.draw_Order.c : ACode := .seq (.region F.draw_Order.r0) (.seq (.seq (.region F.draw_Order.r1) (.cond (.tmp 19) (.seq (.region F.draw_Order.r2) (.ret)) (.skip))) (.seq (.region F.draw_Order.r3) (.seq (.seq (.region F.draw_Order.r4) (.block 0 (.loop F.draw_Order.L0))) (.seq (.region F.draw_Order.r9) (.seq (.block 2 (.loop F.draw_Order.L1)) (.seq (.region F.draw_Order.r17) (.ret)))))))
def F.draw_Order : AFunc := ⟨F.draw_Order.c, [.tmp 4, .tmp 5, .tmp 6]⟩
end Go.Proofs.Ytbehlbabgomhfaa
