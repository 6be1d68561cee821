/- The abstract code of package dfa, written by wip/tools/gen.py from the translation. -/
import Derived.Test.YtmlnknngpdnepaaI
namespace Go.Proofs.Ytmlnknngpdnepaa
open Go Go.Ab
/-! parlance/dfa.Check -/
def F.dfa_Check.r0 : List DOp := [
 Dd 1 (.box (.tmp 0)),
 Dd 2 (.mv (.const (.int .i64 0)))]
def F.dfa_Check.r1 : List DOp := [
 Dd 10 (.faddr 2 (.tmp 1)),
 Dd 11 (.load 1 false (.tmp 10)),
 Dd 12 (.len (.tmp 11)),
 Dd 13 (.bin .gtr (.tmp 12) (.const (.int .i64 200)))]
def F.dfa_Check.r2 : List DOp := [
 Dd 2 (.mv (.const (.int .i64 2)))]
def F.dfa_Check.r3 : List DOp := [
 Dd 14 (.faddr 2 (.tmp 1)),
 Dd 15 (.load 1 false (.tmp 14)),
 Dd 16 (.len (.tmp 15)),
 Dd 17 (.bin .eql (.tmp 16) (.const (.int .i64 0))),
 Dd 18 (.mv (.tmp 17)),
 ⟨some 19, .faddr 1 (.tmp 1), (some (18, false)), []⟩,
 ⟨some 20, .load 1 false (.tmp 19), (some (18, false)), []⟩,
 ⟨some 21, .len (.tmp 20), (some (18, false)), []⟩,
 ⟨some 22, .faddr 2 (.tmp 1), (some (18, false)), []⟩,
 ⟨some 23, .load 1 false (.tmp 22), (some (18, false)), []⟩,
 ⟨some 24, .len (.tmp 23), (some (18, false)), []⟩,
 ⟨some 25, .bin .neq (.tmp 21) (.tmp 24), (some (18, false)), []⟩,
 Dd 26 (.pick (.tmp 18) (.const (.bool true)) (.tmp 25))]
def F.dfa_Check.r4 : List DOp := [
 Dd 2 (.mv (.const (.int .i64 3)))]
def F.dfa_Check.r5 : List DOp := [
 Dd 27 (.faddr 2 (.tmp 1)),
 Dd 28 (.load 1 false (.tmp 27)),
 Dd 29 (.idxs 1 (.tmp 28) (.const (.int .i64 0))),
 Dd 30 (.load 1 false (.tmp 29)),
 Dd 31 (.len (.tmp 30)),
 Dd 3 (.mv (.tmp 31))]
def F.dfa_Check.r6 : List DOp := [
 Dd 32 (.mv (.tmp 3)),
 Dd 33 (.bin .gtr (.tmp 32) (.const (.int .i64 16)))]
def F.dfa_Check.r7 : List DOp := [
 Dd 2 (.mv (.const (.int .i64 2)))]
def F.dfa_Check.r8 : List DOp := [
 Dd 34 (.faddr 2 (.tmp 1)),
 Dd 35 (.load 1 false (.tmp 34)),
 Dd 36 (.len (.tmp 35)),
 Dd 37 (.mv (.const (.int .i64 0)))]
def F.dfa_Check.r9 : List DOp := [
 Dd 38 (.bin .lss (.tmp 37) (.tmp 36))]
def F.dfa_Check.r10 : List DOp := [
 Dd 39 (.idxs 1 (.tmp 35) (.tmp 37)),
 Dd 40 (.load 1 false (.tmp 39)),
 Dd 5 (.mv (.tmp 40))]
def F.dfa_Check.r11 : List DOp := [
 Dd 41 (.mv (.tmp 5)),
 Dd 42 (.len (.tmp 41)),
 Dd 43 (.mv (.tmp 3)),
 Dd 44 (.bin .neq (.tmp 42) (.tmp 43)),
 Dd 45 (.mv (.tmp 44)),
 ⟨some 46, .mv (.tmp 3), (some (45, false)), []⟩,
 ⟨some 47, .bin .eql (.tmp 46) (.const (.int .i64 0)), (some (45, false)), []⟩,
 Dd 48 (.pick (.tmp 45) (.const (.bool true)) (.tmp 47))]
def F.dfa_Check.r12 : List DOp := [
 Dd 2 (.mv (.const (.int .i64 3)))]
def F.dfa_Check.r13 : List DOp := [
 Dd 49 (.bin .add (.tmp 37) (.const (.int .i64 1))),
 Dd 37 (.mv (.tmp 49))]
def F.dfa_Check.L0 : ACode := .seq (.region F.dfa_Check.r9) (.seq (.cond (.tmp 38) (.skip) (.exit 0)) (.seq (.block 1 (.seq (.region F.dfa_Check.r10) (.seq (.region F.dfa_Check.r11) (.cond (.tmp 48) (.seq (.region F.dfa_Check.r12) (.ret)) (.skip))))) (.region F.dfa_Check.r13)))
def F.dfa_Check.r14 : List DOp := [
 Dd 50 (.faddr 0 (.tmp 1)),
 Dd 51 (.load 1 false (.tmp 50)),
 Dd 52 (.bin .lss (.tmp 51) (.const (.int .i64 0))),
 Dd 53 (.mv (.tmp 52)),
 ⟨some 54, .faddr 0 (.tmp 1), (some (53, false)), []⟩,
 ⟨some 55, .load 1 false (.tmp 54), (some (53, false)), []⟩,
 ⟨some 56, .faddr 2 (.tmp 1), (some (53, false)), []⟩,
 ⟨some 57, .load 1 false (.tmp 56), (some (53, false)), []⟩,
 ⟨some 58, .len (.tmp 57), (some (53, false)), []⟩,
 ⟨some 59, .bin .geq (.tmp 55) (.tmp 58), (some (53, false)), []⟩,
 Dd 60 (.pick (.tmp 53) (.const (.bool true)) (.tmp 59))]
def F.dfa_Check.r15 : List DOp := [
 Dd 2 (.mv (.const (.int .i64 1)))]
def F.dfa_Check.r16 : List DOp := [
 Dd 61 (.faddr 2 (.tmp 1)),
 Dd 62 (.load 1 false (.tmp 61)),
 Dd 63 (.len (.tmp 62)),
 Dd 64 (.mv (.const (.int .i64 0)))]
def F.dfa_Check.r17 : List DOp := [
 Dd 65 (.bin .lss (.tmp 64) (.tmp 63))]
def F.dfa_Check.r18 : List DOp := [
 Dd 66 (.mv (.tmp 64)),
 Dd 67 (.idxs 1 (.tmp 62) (.tmp 64)),
 Dd 68 (.load 1 false (.tmp 67)),
 Dd 6 (.mv (.tmp 66)),
 Dd 7 (.mv (.tmp 68))]
def F.dfa_Check.r19 : List DOp := [
 Dd 69 (.faddr 1 (.tmp 1)),
 Dd 70 (.load 1 false (.tmp 69)),
 Dd 71 (.mv (.tmp 6)),
 Dd 72 (.idxs 1 (.tmp 70) (.tmp 71)),
 Dd 73 (.load 1 false (.tmp 72)),
 Dd 74 (.bin .lss (.tmp 73) (.const (.int .i64 (-1))))]
def F.dfa_Check.r20 : List DOp := [
 Dd 2 (.mv (.const (.int .i64 1)))]
def F.dfa_Check.r21 : List DOp := [
 Dd 75 (.mv (.tmp 7)),
 Dd 76 (.len (.tmp 75)),
 Dd 77 (.mv (.const (.int .i64 0)))]
def F.dfa_Check.r22 : List DOp := [
 Dd 78 (.bin .lss (.tmp 77) (.tmp 76))]
def F.dfa_Check.r23 : List DOp := [
 Dd 79 (.idxs 1 (.tmp 75) (.tmp 77)),
 Dd 80 (.load 1 false (.tmp 79)),
 Dd 9 (.mv (.tmp 80))]
def F.dfa_Check.r24 : List DOp := [
 Dd 81 (.mv (.tmp 9)),
 Dd 82 (.bin .lss (.tmp 81) (.const (.int .i64 (-1)))),
 Dd 83 (.mv (.tmp 82)),
 ⟨some 84, .mv (.tmp 9), (some (83, false)), []⟩,
 ⟨some 85, .faddr 2 (.tmp 1), (some (83, false)), []⟩,
 ⟨some 86, .load 1 false (.tmp 85), (some (83, false)), []⟩,
 ⟨some 87, .len (.tmp 86), (some (83, false)), []⟩,
 ⟨some 88, .bin .geq (.tmp 84) (.tmp 87), (some (83, false)), []⟩,
 Dd 89 (.pick (.tmp 83) (.const (.bool true)) (.tmp 88))]
def F.dfa_Check.r25 : List DOp := [
 Dd 2 (.mv (.const (.int .i64 1)))]
def F.dfa_Check.r26 : List DOp := [
 Dd 90 (.bin .add (.tmp 77) (.const (.int .i64 1))),
 Dd 77 (.mv (.tmp 90))]
def F.dfa_Check.L2 : ACode := .seq (.region F.dfa_Check.r22) (.seq (.cond (.tmp 78) (.skip) (.exit 4)) (.seq (.block 5 (.seq (.region F.dfa_Check.r23) (.seq (.region F.dfa_Check.r24) (.cond (.tmp 89) (.seq (.region F.dfa_Check.r25) (.ret)) (.skip))))) (.region F.dfa_Check.r26)))
def F.dfa_Check.r27 : List DOp := [
 Dd 91 (.bin .add (.tmp 64) (.const (.int .i64 1))),
 Dd 64 (.mv (.tmp 91))]
def F.dfa_Check.L1 : ACode := .seq (.region F.dfa_Check.r17) (.seq (.cond (.tmp 65) (.skip) (.exit 2)) (.seq (.block 3 (.seq (.region F.dfa_Check.r18) (.seq (.seq (.region F.dfa_Check.r19) (.cond (.tmp 74) (.seq (.region F.dfa_Check.r20) (.ret)) (.skip))) (.seq (.region F.dfa_Check.r21) (.block 4 (.loop F.dfa_Check.L2)))))) (.region F.dfa_Check.r27)))
def F.dfa_Check.r28 : List DOp := [
 Dd 2 (.mv (.const (.int .i64 0)))]
def F.dfa_Check.c : ACode := .seq (.region F.dfa_Check.r0) (.seq (.seq (.region F.dfa_Check.r1) (.cond (.tmp 13) (.seq (.region F.dfa_Check.r2) (.ret)) (.skip))) (.seq (.seq (.region F.dfa_Check.r3) (.cond (.tmp 26) (.seq (.region F.dfa_Check.r4) (.ret)) (.skip))) (.seq (.region F.dfa_Check.r5) (.seq (.seq (.region F.dfa_Check.r6) (.cond (.tmp 33) (.seq (.region F.dfa_Check.r7) (.ret)) (.skip))) (.seq (.seq (.region F.dfa_Check.r8) (.block 0 (.loop F.dfa_Check.L0))) (.seq (.seq (.region F.dfa_Check.r14) (.cond (.tmp 60) (.seq (.region F.dfa_Check.r15) (.ret)) (.skip))) (.seq (.seq (.region F.dfa_Check.r16) (.block 2 (.loop F.dfa_Check.L1))) (.seq (.region F.dfa_Check.r28) (.ret)))))))))
def F.dfa_Check : AFunc := ⟨F.dfa_Check.c, [.tmp 2]⟩
/-! parlance/dfa.Run -/
def F.dfa_Run.r0 : List DOp := [
 Dd 2 (.box (.tmp 0)),
 Dd 4 (.mv (.const (.int .i64 0))),
 Dd 5 (.mv (.const (.int .i64 0)))]
def F.dfa_Run.r1 : List DOp := [
 Dd 12 (.load 3 true (.tmp 2)),
 Dd 13 (.call I.dfa_Check [.tmp 12]),
 Dd 6 (.mv (.tmp 13))]
def F.dfa_Run.r2 : List DOp := [
 Dd 14 (.mv (.tmp 6)),
 Dd 15 (.bin .neq (.tmp 14) (.const (.int .i64 0)))]
def F.dfa_Run.r3 : List DOp := [
 Dd 16 (.mv (.tmp 6)),
 Dd 4 (.mv (.const (.int .i64 0))),
 Dd 5 (.mv (.tmp 16))]
def F.dfa_Run.r4 : List DOp := [
 Dd 17 (.mv (.tmp 1)),
 Dd 18 (.len (.tmp 17)),
 Dd 19 (.bin .gtr (.tmp 18) (.const (.int .i64 4000)))]
def F.dfa_Run.r5 : List DOp := [
 Dd 4 (.mv (.const (.int .i64 0))),
 Dd 5 (.mv (.const (.int .i64 2)))]
def F.dfa_Run.r6 : List DOp := [
 Dd 20 (.mv (.tmp 1)),
 Dd 21 (.len (.tmp 20)),
 Dd 22 (.mv (.const (.int .i64 0)))]
def F.dfa_Run.r7 : List DOp := [
 Dd 23 (.bin .lss (.tmp 22) (.tmp 21))]
def F.dfa_Run.r8 : List DOp := [
 Dd 24 (.idxs 1 (.tmp 20) (.tmp 22)),
 Dd 25 (.load 1 false (.tmp 24)),
 Dd 8 (.mv (.tmp 25))]
def F.dfa_Run.r9 : List DOp := [
 Dd 26 (.mv (.tmp 8)),
 Dd 27 (.bin .lss (.tmp 26) (.const (.int .i64 0))),
 Dd 28 (.mv (.tmp 27)),
 ⟨some 29, .mv (.tmp 8), (some (28, false)), []⟩,
 ⟨some 30, .faddr 2 (.tmp 2), (some (28, false)), []⟩,
 ⟨some 31, .load 1 false (.tmp 30), (some (28, false)), []⟩,
 ⟨some 32, .idxs 1 (.tmp 31) (.const (.int .i64 0)), (some (28, false)), []⟩,
 ⟨some 33, .load 1 false (.tmp 32), (some (28, false)), []⟩,
 ⟨some 34, .len (.tmp 33), (some (28, false)), []⟩,
 ⟨some 35, .bin .geq (.tmp 29) (.tmp 34), (some (28, false)), []⟩,
 Dd 36 (.pick (.tmp 28) (.const (.bool true)) (.tmp 35))]
def F.dfa_Run.r10 : List DOp := [
 Dd 4 (.mv (.const (.int .i64 0))),
 Dd 5 (.mv (.const (.int .i64 1)))]
def F.dfa_Run.r11 : List DOp := [
 Dd 37 (.bin .add (.tmp 22) (.const (.int .i64 1))),
 Dd 22 (.mv (.tmp 37))]
def F.dfa_Run.L0 : ACode := .seq (.region F.dfa_Run.r7) (.seq (.cond (.tmp 23) (.skip) (.exit 0)) (.seq (.block 1 (.seq (.region F.dfa_Run.r8) (.seq (.region F.dfa_Run.r9) (.cond (.tmp 36) (.seq (.region F.dfa_Run.r10) (.ret)) (.skip))))) (.region F.dfa_Run.r11)))
def F.dfa_Run.r12 : List DOp := [
 Dd 38 (.faddr 0 (.tmp 2)),
 Dd 39 (.load 1 false (.tmp 38)),
 Dd 9 (.mv (.tmp 39))]
def F.dfa_Run.r13 : List DOp := [
 Dd 40 (.mv (.tmp 1)),
 Dd 41 (.len (.tmp 40)),
 Dd 42 (.mv (.const (.int .i64 0)))]
def F.dfa_Run.r14 : List DOp := [
 Dd 43 (.bin .lss (.tmp 42) (.tmp 41))]
def F.dfa_Run.r15 : List DOp := [
 Dd 44 (.idxs 1 (.tmp 40) (.tmp 42)),
 Dd 45 (.load 1 false (.tmp 44)),
 Dd 11 (.mv (.tmp 45))]
def F.dfa_Run.r16 : List DOp := [
 Dd 46 (.faddr 2 (.tmp 2)),
 Dd 47 (.load 1 false (.tmp 46)),
 Dd 48 (.mv (.tmp 9)),
 Dd 49 (.idxs 1 (.tmp 47) (.tmp 48)),
 Dd 50 (.load 1 false (.tmp 49)),
 Dd 51 (.mv (.tmp 11)),
 Dd 52 (.idxs 1 (.tmp 50) (.tmp 51)),
 Dd 53 (.load 1 false (.tmp 52)),
 Dd 9 (.mv (.tmp 53))]
def F.dfa_Run.r17 : List DOp := [
 Dd 54 (.mv (.tmp 9)),
 Dd 55 (.bin .lss (.tmp 54) (.const (.int .i64 0)))]
def F.dfa_Run.r18 : List DOp := [
 Dd 4 (.mv (.const (.int .i64 (-1)))),
 Dd 5 (.mv (.const (.int .i64 0)))]
def F.dfa_Run.r19 : List DOp := [
 Dd 56 (.bin .add (.tmp 42) (.const (.int .i64 1))),
 Dd 42 (.mv (.tmp 56))]
def F.dfa_Run.L1 : ACode := .seq (.region F.dfa_Run.r14) (.seq (.cond (.tmp 43) (.skip) (.exit 2)) (.seq (.block 3 (.seq (.region F.dfa_Run.r15) (.seq (.region F.dfa_Run.r16) (.seq (.region F.dfa_Run.r17) (.cond (.tmp 55) (.seq (.region F.dfa_Run.r18) (.ret)) (.skip)))))) (.region F.dfa_Run.r19)))
def F.dfa_Run.r20 : List DOp := [
 Dd 57 (.faddr 1 (.tmp 2)),
 Dd 58 (.load 1 false (.tmp 57)),
 Dd 59 (.mv (.tmp 9)),
 Dd 60 (.idxs 1 (.tmp 58) (.tmp 59)),
 Dd 61 (.load 1 false (.tmp 60)),
 Dd 4 (.mv (.tmp 61)),
 Dd 5 (.mv (.const (.int .i64 0)))]
def F.dfa_Run.c : ACode := .seq (.region F.dfa_Run.r0) (.seq (.seq (.region F.dfa_Run.r1) (.seq (.region F.dfa_Run.r2) (.cond (.tmp 15) (.seq (.region F.dfa_Run.r3) (.ret)) (.skip)))) (.seq (.seq (.region F.dfa_Run.r4) (.cond (.tmp 19) (.seq (.region F.dfa_Run.r5) (.ret)) (.skip))) (.seq (.seq (.region F.dfa_Run.r6) (.block 0 (.loop F.dfa_Run.L0))) (.seq (.region F.dfa_Run.r12) (.seq (.seq (.region F.dfa_Run.r13) (.block 2 (.loop F.dfa_Run.L1))) (.seq (.region F.dfa_Run.r20) (.ret)))))))
def F.dfa_Run : AFunc := ⟨F.dfa_Run.c, [.tmp 4, .tmp 5]⟩
end Go.Proofs.Ytmlnknngpdnepaa
