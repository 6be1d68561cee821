/- The abstract code of package gram, written by wip/tools/gen.py from the translation. -/
import Derived.Test.YtcdhhelgoppleaaI
namespace Go.Proofs.Ytcdhhelgoppleaa
open Go Go.Ab
/-! parlance/gram.Check -/
def F.gram_Check.r0 : List DOp := [
 Dd 1 (.box (.tmp 0)),
 Dd 2 (.mv (.const (.int .i64 0)))]
def F.gram_Check.r1 : List DOp := [
 Dd 9 (.faddr 0 (.tmp 1)),
 Dd 10 (.load 1 false (.tmp 9)),
 Dd 11 (.bin .lss (.tmp 10) (.const (.int .i64 1))),
 Dd 12 (.mv (.tmp 11)),
 ⟨some 13, .faddr 0 (.tmp 1), (some (12, false)), []⟩,
 ⟨some 14, .load 1 false (.tmp 13), (some (12, false)), []⟩,
 ⟨some 15, .bin .gtr (.tmp 14) (.const (.int .i64 8)), (some (12, false)), []⟩,
 Dd 16 (.pick (.tmp 12) (.const (.bool true)) (.tmp 15)),
 Dd 17 (.mv (.tmp 16)),
 ⟨some 18, .faddr 1 (.tmp 1), (some (17, false)), []⟩,
 ⟨some 19, .load 1 false (.tmp 18), (some (17, false)), []⟩,
 ⟨some 20, .bin .lss (.tmp 19) (.const (.int .i64 1)), (some (17, false)), []⟩,
 Dd 21 (.pick (.tmp 17) (.const (.bool true)) (.tmp 20)),
 Dd 22 (.mv (.tmp 21)),
 ⟨some 23, .faddr 1 (.tmp 1), (some (22, false)), []⟩,
 ⟨some 24, .load 1 false (.tmp 23), (some (22, false)), []⟩,
 ⟨some 25, .bin .gtr (.tmp 24) (.const (.int .i64 10)), (some (22, false)), []⟩,
 Dd 26 (.pick (.tmp 22) (.const (.bool true)) (.tmp 25)),
 Dd 27 (.mv (.tmp 26)),
 ⟨some 28, .faddr 2 (.tmp 1), (some (27, false)), []⟩,
 ⟨some 29, .load 1 false (.tmp 28), (some (27, false)), []⟩,
 ⟨some 30, .bin .lss (.tmp 29) (.const (.int .i64 0)), (some (27, false)), []⟩,
 Dd 31 (.pick (.tmp 27) (.const (.bool true)) (.tmp 30)),
 Dd 32 (.mv (.tmp 31)),
 ⟨some 33, .faddr 2 (.tmp 1), (some (32, false)), []⟩,
 ⟨some 34, .load 1 false (.tmp 33), (some (32, false)), []⟩,
 ⟨some 35, .faddr 1 (.tmp 1), (some (32, false)), []⟩,
 ⟨some 36, .load 1 false (.tmp 35), (some (32, false)), []⟩,
 ⟨some 37, .bin .geq (.tmp 34) (.tmp 36), (some (32, false)), []⟩,
 Dd 38 (.pick (.tmp 32) (.const (.bool true)) (.tmp 37))]
def F.gram_Check.r2 : List DOp := [
 Dd 2 (.mv (.const (.int .i64 1)))]
def F.gram_Check.r3 : List DOp := [
 Dd 39 (.faddr 3 (.tmp 1)),
 Dd 40 (.load 1 false (.tmp 39)),
 Dd 41 (.len (.tmp 40)),
 Dd 42 (.bin .gtr (.tmp 41) (.const (.int .i64 32)))]
def F.gram_Check.r4 : List DOp := [
 Dd 2 (.mv (.const (.int .i64 2)))]
def F.gram_Check.r5 : List DOp := [
 Dd 43 (.faddr 3 (.tmp 1)),
 Dd 44 (.load 1 false (.tmp 43)),
 Dd 45 (.len (.tmp 44)),
 Dd 46 (.mv (.const (.int .i64 0)))]
def F.gram_Check.r6 : List DOp := [
 Dd 47 (.bin .lss (.tmp 46) (.tmp 45))]
def F.gram_Check.r7 : List DOp := [
 Dd 48 (.mv (.tmp 46)),
 Dd 49 (.idxs 2 (.tmp 44) (.tmp 46)),
 Dd 50 (.load 2 true (.tmp 49)),
 Dd 4 (.alloc [.int .i64 0, .slice none 0 0]),
 Dd 3 (.mv (.tmp 48)),
 De (.store 2 (.tmp 4) (.tmp 50))]
def F.gram_Check.r8 : List DOp := [
 Dd 51 (.faddr 0 (.tmp 4)),
 Dd 52 (.load 1 false (.tmp 51)),
 Dd 53 (.bin .lss (.tmp 52) (.const (.int .i64 0))),
 Dd 54 (.mv (.tmp 53)),
 ⟨some 55, .faddr 0 (.tmp 4), (some (54, false)), []⟩,
 ⟨some 56, .load 1 false (.tmp 55), (some (54, false)), []⟩,
 ⟨some 57, .faddr 1 (.tmp 1), (some (54, false)), []⟩,
 ⟨some 58, .load 1 false (.tmp 57), (some (54, false)), []⟩,
 ⟨some 59, .bin .geq (.tmp 56) (.tmp 58), (some (54, false)), []⟩,
 Dd 60 (.pick (.tmp 54) (.const (.bool true)) (.tmp 59))]
def F.gram_Check.r9 : List DOp := [
 Dd 2 (.mv (.const (.int .i64 3)))]
def F.gram_Check.r10 : List DOp := [
 Dd 61 (.faddr 1 (.tmp 4)),
 Dd 62 (.load 1 false (.tmp 61)),
 Dd 63 (.len (.tmp 62)),
 Dd 64 (.bin .gtr (.tmp 63) (.const (.int .i64 4)))]
def F.gram_Check.r11 : List DOp := [
 Dd 2 (.mv (.const (.int .i64 2)))]
def F.gram_Check.r12 : List DOp := [
 Dd 65 (.faddr 1 (.tmp 4)),
 Dd 66 (.load 1 false (.tmp 65)),
 Dd 67 (.len (.tmp 66)),
 Dd 68 (.mv (.const (.int .i64 0)))]
def F.gram_Check.r13 : List DOp := [
 Dd 69 (.bin .lss (.tmp 68) (.tmp 67))]
def F.gram_Check.r14 : List DOp := [
 Dd 70 (.idxs 2 (.tmp 66) (.tmp 68)),
 Dd 71 (.load 2 true (.tmp 70)),
 Dd 6 (.alloc [.bool false, .int .i64 0]),
 De (.store 2 (.tmp 6) (.tmp 71))]
def F.gram_Check.r15 : List DOp := [
 Dd 72 (.faddr 1 (.tmp 6)),
 Dd 73 (.load 1 false (.tmp 72)),
 Dd 74 (.bin .lss (.tmp 73) (.const (.int .i64 0))),
 Dd 75 (.mv (.tmp 74)),
 ⟨some 76, .faddr 0 (.tmp 6), (some (75, false)), []⟩,
 ⟨some 77, .load 1 false (.tmp 76), (some (75, false)), []⟩,
 ⟨some 78, .mv (.tmp 77), (some (75, false)), []⟩,
 ⟨some 79, .faddr 1 (.tmp 6), (some (78, true)), []⟩,
 ⟨some 80, .load 1 false (.tmp 79), (some (78, true)), []⟩,
 ⟨some 81, .faddr 0 (.tmp 1), (some (78, true)), []⟩,
 ⟨some 82, .load 1 false (.tmp 81), (some (78, true)), []⟩,
 ⟨some 83, .bin .geq (.tmp 80) (.tmp 82), (some (78, true)), []⟩,
 ⟨some 84, .pick (.tmp 78) (.tmp 83) (.const (.bool false)), (some (75, false)), []⟩,
 Dd 85 (.pick (.tmp 75) (.const (.bool true)) (.tmp 84)),
 Dd 86 (.mv (.tmp 85)),
 ⟨some 87, .faddr 0 (.tmp 6), (some (86, false)), []⟩,
 ⟨some 88, .load 1 false (.tmp 87), (some (86, false)), []⟩,
 ⟨some 89, .un .not (.tmp 88), (some (86, false)), []⟩,
 ⟨some 90, .mv (.tmp 89), (some (86, false)), []⟩,
 ⟨some 91, .faddr 1 (.tmp 6), (some (90, true)), []⟩,
 ⟨some 92, .load 1 false (.tmp 91), (some (90, true)), []⟩,
 ⟨some 93, .faddr 1 (.tmp 1), (some (90, true)), []⟩,
 ⟨some 94, .load 1 false (.tmp 93), (some (90, true)), []⟩,
 ⟨some 95, .bin .geq (.tmp 92) (.tmp 94), (some (90, true)), []⟩,
 ⟨some 96, .pick (.tmp 90) (.tmp 95) (.const (.bool false)), (some (86, false)), []⟩,
 Dd 97 (.pick (.tmp 86) (.const (.bool true)) (.tmp 96))]
def F.gram_Check.r16 : List DOp := [
 Dd 2 (.mv (.const (.int .i64 3)))]
def F.gram_Check.r17 : List DOp := [
 Dd 98 (.bin .add (.tmp 68) (.const (.int .i64 1))),
 Dd 68 (.mv (.tmp 98))]
def F.gram_Check.L1 : ACode := .seq (.region F.gram_Check.r13) (.seq (.cond (.tmp 69) (.skip) (.exit 2)) (.seq (.block 3 (.seq (.region F.gram_Check.r14) (.seq (.region F.gram_Check.r15) (.cond (.tmp 97) (.seq (.region F.gram_Check.r16) (.ret)) (.skip))))) (.region F.gram_Check.r17)))
def F.gram_Check.r18 : List DOp := [
 Dd 99 (.faddr 3 (.tmp 1)),
 Dd 100 (.load 1 false (.tmp 99)),
 Dd 101 (.mv (.tmp 3)),
 Dd 102 (.slice 2 (.tmp 100) none (some (.tmp 101))),
 Dd 103 (.len (.tmp 102)),
 Dd 104 (.mv (.const (.int .i64 0)))]
def F.gram_Check.r19 : List DOp := [
 Dd 105 (.bin .lss (.tmp 104) (.tmp 103))]
def F.gram_Check.r20 : List DOp := [
 Dd 106 (.idxs 2 (.tmp 102) (.tmp 104)),
 Dd 107 (.load 2 true (.tmp 106)),
 Dd 8 (.alloc [.int .i64 0, .slice none 0 0]),
 De (.store 2 (.tmp 8) (.tmp 107))]
def F.gram_Check.r21 : List DOp := [
 Dd 108 (.load 2 true (.tmp 8)),
 Dd 109 (.load 2 true (.tmp 4)),
 Dd 110 (.call I.gram_Compare [.tmp 108, .tmp 109]),
 Dd 111 (.bin .eql (.tmp 110) (.const (.int .i64 0)))]
def F.gram_Check.r22 : List DOp := [
 Dd 2 (.mv (.const (.int .i64 6)))]
def F.gram_Check.r23 : List DOp := [
 Dd 112 (.bin .add (.tmp 104) (.const (.int .i64 1))),
 Dd 104 (.mv (.tmp 112))]
def F.gram_Check.L2 : ACode := .seq (.region F.gram_Check.r19) (.seq (.cond (.tmp 105) (.skip) (.exit 4)) (.seq (.block 5 (.seq (.region F.gram_Check.r20) (.seq (.region F.gram_Check.r21) (.cond (.tmp 111) (.seq (.region F.gram_Check.r22) (.ret)) (.skip))))) (.region F.gram_Check.r23)))
def F.gram_Check.r24 : List DOp := [
 Dd 113 (.bin .add (.tmp 46) (.const (.int .i64 1))),
 Dd 46 (.mv (.tmp 113))]
def F.gram_Check.L0 : ACode := .seq (.region F.gram_Check.r6) (.seq (.cond (.tmp 47) (.skip) (.exit 0)) (.seq (.block 1 (.seq (.region F.gram_Check.r7) (.seq (.seq (.region F.gram_Check.r8) (.cond (.tmp 60) (.seq (.region F.gram_Check.r9) (.ret)) (.skip))) (.seq (.seq (.region F.gram_Check.r10) (.cond (.tmp 64) (.seq (.region F.gram_Check.r11) (.ret)) (.skip))) (.seq (.seq (.region F.gram_Check.r12) (.block 2 (.loop F.gram_Check.L1))) (.seq (.region F.gram_Check.r18) (.block 4 (.loop F.gram_Check.L2)))))))) (.region F.gram_Check.r24)))
def F.gram_Check.r25 : List DOp := [
 Dd 2 (.mv (.const (.int .i64 0)))]
def F.gram_Check.c : ACode := .seq (.region F.gram_Check.r0) (.seq (.seq (.region F.gram_Check.r1) (.cond (.tmp 38) (.seq (.region F.gram_Check.r2) (.ret)) (.skip))) (.seq (.seq (.region F.gram_Check.r3) (.cond (.tmp 42) (.seq (.region F.gram_Check.r4) (.ret)) (.skip))) (.seq (.seq (.region F.gram_Check.r5) (.block 0 (.loop F.gram_Check.L0))) (.seq (.region F.gram_Check.r25) (.ret)))))
def F.gram_Check : AFunc := ⟨F.gram_Check.c, [.tmp 2]⟩
/-! parlance/gram.Word -/
def F.gram_Word.r0 : List DOp := [
 Dd 3 (.box (.tmp 0)),
 Dd 6 (.mv (.const (.int .i64 0)))]
def F.gram_Word.r1 : List DOp := [
 Dd 9 (.mv (.tmp 1)),
 Dd 10 (.len (.tmp 9)),
 Dd 11 (.mv (.tmp 2)),
 Dd 12 (.bin .gtr (.tmp 10) (.tmp 11))]
def F.gram_Word.r2 : List DOp := [
 Dd 6 (.mv (.const (.int .i64 2)))]
def F.gram_Word.r3 : List DOp := [
 Dd 13 (.mv (.tmp 1)),
 Dd 14 (.len (.tmp 13)),
 Dd 15 (.mv (.const (.int .i64 0)))]
def F.gram_Word.r4 : List DOp := [
 Dd 16 (.bin .lss (.tmp 15) (.tmp 14))]
def F.gram_Word.r5 : List DOp := [
 Dd 17 (.idxs 1 (.tmp 13) (.tmp 15)),
 Dd 18 (.load 1 false (.tmp 17)),
 Dd 8 (.mv (.tmp 18))]
def F.gram_Word.r6 : List DOp := [
 Dd 19 (.mv (.tmp 8)),
 Dd 20 (.bin .lss (.tmp 19) (.const (.int .i64 0))),
 Dd 21 (.mv (.tmp 20)),
 ⟨some 22, .mv (.tmp 8), (some (21, false)), []⟩,
 ⟨some 23, .faddr 0 (.tmp 3), (some (21, false)), []⟩,
 ⟨some 24, .load 1 false (.tmp 23), (some (21, false)), []⟩,
 ⟨some 25, .bin .geq (.tmp 22) (.tmp 24), (some (21, false)), []⟩,
 Dd 26 (.pick (.tmp 21) (.const (.bool true)) (.tmp 25))]
def F.gram_Word.r7 : List DOp := [
 Dd 6 (.mv (.const (.int .i64 1)))]
def F.gram_Word.r8 : List DOp := [
 Dd 27 (.bin .add (.tmp 15) (.const (.int .i64 1))),
 Dd 15 (.mv (.tmp 27))]
def F.gram_Word.L0 : ACode := .seq (.region F.gram_Word.r4) (.seq (.cond (.tmp 16) (.skip) (.exit 0)) (.seq (.block 1 (.seq (.region F.gram_Word.r5) (.seq (.region F.gram_Word.r6) (.cond (.tmp 26) (.seq (.region F.gram_Word.r7) (.ret)) (.skip))))) (.region F.gram_Word.r8)))
def F.gram_Word.r9 : List DOp := [
 Dd 6 (.mv (.const (.int .i64 0)))]
def F.gram_Word.c : ACode := .seq (.region F.gram_Word.r0) (.seq (.seq (.region F.gram_Word.r1) (.cond (.tmp 12) (.seq (.region F.gram_Word.r2) (.ret)) (.skip))) (.seq (.seq (.region F.gram_Word.r3) (.block 0 (.loop F.gram_Word.L0))) (.seq (.region F.gram_Word.r9) (.ret))))
def F.gram_Word : AFunc := ⟨F.gram_Word.c, [.tmp 6]⟩
/-! parlance/gram.Compare -/
def F.gram_Compare.r0 : List DOp := [
 Dd 2 (.box (.tmp 0)),
 Dd 3 (.box (.tmp 1)),
 Dd 4 (.mv (.const (.int .i64 0)))]
def F.gram_Compare.r1 : List DOp := [
 Dd 6 (.faddr 0 (.tmp 2)),
 Dd 7 (.load 1 false (.tmp 6)),
 Dd 8 (.faddr 0 (.tmp 3)),
 Dd 9 (.load 1 false (.tmp 8)),
 Dd 10 (.call I.cmp_Compare_int [.tmp 7, .tmp 9]),
 Dd 5 (.mv (.tmp 10))]
def F.gram_Compare.r2 : List DOp := [
 Dd 11 (.mv (.tmp 5)),
 Dd 12 (.bin .neq (.tmp 11) (.const (.int .i64 0)))]
def F.gram_Compare.r3 : List DOp := [
 Dd 13 (.mv (.tmp 5)),
 Dd 4 (.mv (.tmp 13))]
def F.gram_Compare.r4 : List DOp := [
 Dd 14 (.faddr 1 (.tmp 2)),
 Dd 15 (.load 1 false (.tmp 14)),
 Dd 16 (.faddr 1 (.tmp 3)),
 Dd 17 (.load 1 false (.tmp 16)),
 Dd 18 (.call I.slices_CompareFunc_api_Sym_api_Sym_api_Sym_api_Sym [.tmp 15, .tmp 17, .func I.gram_Order]),
 Dd 4 (.mv (.tmp 18))]
def F.gram_Compare.c : ACode := .seq (.region F.gram_Compare.r0) (.seq (.seq (.region F.gram_Compare.r1) (.seq (.region F.gram_Compare.r2) (.cond (.tmp 12) (.seq (.region F.gram_Compare.r3) (.ret)) (.skip)))) (.seq (.region F.gram_Compare.r4) (.ret)))
def F.gram_Compare : AFunc := ⟨F.gram_Compare.c, [.tmp 4]⟩
/-! parlance/gram.Order -/
def F.gram_Order.r0 : List DOp := [
 Dd 2 (.box (.tmp 0)),
 Dd 3 (.box (.tmp 1)),
 Dd 4 (.mv (.const (.int .i64 0)))]
def F.gram_Order.r1 : List DOp := [
 Dd 6 (.faddr 0 (.tmp 2)),
 Dd 7 (.load 1 false (.tmp 6)),
 Dd 8 (.mv (.tmp 7)),
 ⟨some 9, .faddr 0 (.tmp 3), (some (8, true)), []⟩,
 ⟨some 10, .load 1 false (.tmp 9), (some (8, true)), []⟩,
 ⟨some 11, .un .not (.tmp 10), (some (8, true)), []⟩,
 Dd 12 (.pick (.tmp 8) (.tmp 11) (.const (.bool false))),
 Dd 5 (.mv (.tmp 12))]
def F.gram_Order.r2 : List DOp := [
 Dd 4 (.mv (.const (.int .i64 (-1))))]
def F.gram_Order.r3 : List DOp := [
 Dd 14 (.faddr 0 (.tmp 2)),
 Dd 15 (.load 1 false (.tmp 14)),
 Dd 16 (.un .not (.tmp 15)),
 Dd 17 (.mv (.tmp 16)),
 ⟨some 18, .faddr 0 (.tmp 3), (some (17, true)), []⟩,
 ⟨some 19, .load 1 false (.tmp 18), (some (17, true)), []⟩,
 Dd 20 (.pick (.tmp 17) (.tmp 19) (.const (.bool false))),
 Dd 13 (.mv (.tmp 20))]
def F.gram_Order.r4 : List DOp := [
 Dd 4 (.mv (.const (.int .i64 1)))]
def F.gram_Order.r5 : List DOp := [
 Dd 21 (.faddr 1 (.tmp 2)),
 Dd 22 (.load 1 false (.tmp 21)),
 Dd 23 (.faddr 1 (.tmp 3)),
 Dd 24 (.load 1 false (.tmp 23)),
 Dd 25 (.call I.cmp_Compare_int [.tmp 22, .tmp 24]),
 Dd 4 (.mv (.tmp 25))]
def F.gram_Order.c : ACode := .seq (.region F.gram_Order.r0) (.seq (.block 0 (.seq (.region F.gram_Order.r1) (.cond (.tmp 5) (.seq (.region F.gram_Order.r2) (.ret)) (.seq (.region F.gram_Order.r3) (.cond (.tmp 13) (.seq (.region F.gram_Order.r4) (.ret)) (.skip)))))) (.seq (.region F.gram_Order.r5) (.ret)))
def F.gram_Order : AFunc := ⟨F.gram_Order.c, [.tmp 4]⟩
end Go.Proofs.Ytcdhhelgoppleaa
