/- The abstract code of package slices, written by wip/tools/gen.py from the translation. -/
import Derived.Test.YtbehlbabgomhfaaI
namespace Go.Proofs.Ytbehlbabgomhfaa
open Go Go.Ab
/-! slices.Clone[[]int,int] -/
def F.slices_Clone_int_int.r0 : List DOp := [
 Dd 2 (.mv (.const (.slice none 0 0)))]
def F.slices_Clone_int_int.r1 : List DOp := [
 Dd 3 (.mv (.tmp 0)),
 Dd 4 (.eq false .slice (.tmp 3) (.const (.slice none 0 0)))]
def F.slices_Clone_int_int.r2 : List DOp := [
 Dd 2 (.mv (.const (.slice none 0 0)))]
def F.slices_Clone_int_int.r3 : List DOp := [
 Dd 5 (.bslice 1 0 [] []),
 Dd 6 (.mv (.tmp 0)),
 Dd 7 (.append 1 8 (.tmp 5) (.tmp 6)),
 Dd 2 (.mv (.tmp 7))]
def F.slices_Clone_int_int.c : ACode := .seq (.region F.slices_Clone_int_int.r0) (.seq (.seq (.region F.slices_Clone_int_int.r1) (.cond (.tmp 4) (.seq (.region F.slices_Clone_int_int.r2) (.ret)) (.skip))) (.seq (.region F.slices_Clone_int_int.r3) (.ret)))
def F.slices_Clone_int_int : AFunc := ⟨F.slices_Clone_int_int.c, [.tmp 2]⟩
/-! slices.Sort[[]int,int] -/
def F.slices_Sort_int_int.r0 : List DOp := [
 Dd 3 (.mv (.tmp 0)),
 Dd 4 (.len (.tmp 3)),
 Dd 2 (.mv (.tmp 4))]
def F.slices_Sort_int_int.r1 : List DOp := [
 Dd 5 (.mv (.tmp 0)),
 Dd 6 (.mv (.tmp 2)),
 Dd 7 (.mv (.tmp 2)),
 Dd 8 (.conv .u64 (.tmp 7)),
 Dd 9 (.call I.math_bits_Len [.tmp 8]),
 Dd 10 (.call I.slices_pdqsortOrdered_int [.tmp 5, .const (.int .i64 0), .tmp 6, .tmp 9])]
def F.slices_Sort_int_int.c : ACode := .seq (.region F.slices_Sort_int_int.r0) (.region F.slices_Sort_int_int.r1)
def F.slices_Sort_int_int : AFunc := ⟨F.slices_Sort_int_int.c, []⟩
/-! slices.Clone[[]bool,bool] -/
def F.slices_Clone_bool_bool.r0 : List DOp := [
 Dd 2 (.mv (.const (.slice none 0 0)))]
def F.slices_Clone_bool_bool.r1 : List DOp := [
 Dd 3 (.mv (.tmp 0)),
 Dd 4 (.eq false .slice (.tmp 3) (.const (.slice none 0 0)))]
def F.slices_Clone_bool_bool.r2 : List DOp := [
 Dd 2 (.mv (.const (.slice none 0 0)))]
def F.slices_Clone_bool_bool.r3 : List DOp := [
 Dd 5 (.bslice 1 0 [] []),
 Dd 6 (.mv (.tmp 0)),
 Dd 7 (.append 1 1 (.tmp 5) (.tmp 6)),
 Dd 2 (.mv (.tmp 7))]
def F.slices_Clone_bool_bool.c : ACode := .seq (.region F.slices_Clone_bool_bool.r0) (.seq (.seq (.region F.slices_Clone_bool_bool.r1) (.cond (.tmp 4) (.seq (.region F.slices_Clone_bool_bool.r2) (.ret)) (.skip))) (.seq (.region F.slices_Clone_bool_bool.r3) (.ret)))
def F.slices_Clone_bool_bool : AFunc := ⟨F.slices_Clone_bool_bool.c, [.tmp 2]⟩
/-! slices.pdqsortOrdered[int] -/
def F.slices_pdqsortOrdered_int.r0 : List DOp := [
 Dd 8 (.mv (.const (.bool true)))]
def F.slices_pdqsortOrdered_int.r1 : List DOp := [
 Dd 9 (.mv (.const (.bool true)))]
def F.slices_pdqsortOrdered_int.r2 : List DOp := [
 Dd 19 (.mv (.tmp 2)),
 Dd 20 (.mv (.tmp 1)),
 Dd 21 (.bin .sub (.tmp 19) (.tmp 20)),
 Dd 10 (.mv (.tmp 21))]
def F.slices_pdqsortOrdered_int.r3 : List DOp := [
 Dd 22 (.mv (.tmp 10)),
 Dd 23 (.bin .leq (.tmp 22) (.const (.int .i64 12)))]
def F.slices_pdqsortOrdered_int.r4 : List DOp := [
 Dd 24 (.mv (.tmp 0)),
 Dd 25 (.mv (.tmp 1)),
 Dd 26 (.mv (.tmp 2)),
 Dd 27 (.call I.slices_insertionSortOrdered_int [.tmp 24, .tmp 25, .tmp 26])]
def F.slices_pdqsortOrdered_int.r5 : List DOp := [
 Dd 28 (.mv (.tmp 3)),
 Dd 29 (.bin .eql (.tmp 28) (.const (.int .i64 0)))]
def F.slices_pdqsortOrdered_int.r6 : List DOp := [
 Dd 30 (.mv (.tmp 0)),
 Dd 31 (.mv (.tmp 1)),
 Dd 32 (.mv (.tmp 2)),
 Dd 33 (.call I.slices_heapSortOrdered_int [.tmp 30, .tmp 31, .tmp 32])]
def F.slices_pdqsortOrdered_int.r7 : List DOp := [
 Dd 34 (.mv (.tmp 8)),
 Dd 35 (.un .not (.tmp 34))]
def F.slices_pdqsortOrdered_int.r8 : List DOp := [
 Dd 36 (.mv (.tmp 0)),
 Dd 37 (.mv (.tmp 1)),
 Dd 38 (.mv (.tmp 2)),
 Dd 39 (.call I.slices_breakPatternsOrdered_int [.tmp 36, .tmp 37, .tmp 38])]
def F.slices_pdqsortOrdered_int.r9 : List DOp := [
 Dd 40 (.mv (.tmp 3)),
 Dd 41 (.bin .sub (.tmp 40) (.const (.int .i64 1))),
 Dd 3 (.mv (.tmp 41))]
def F.slices_pdqsortOrdered_int.r10 : List DOp := [
 Dd 43 (.mv (.tmp 0)),
 Dd 44 (.mv (.tmp 1)),
 Dd 45 (.mv (.tmp 2)),
 Dd 46 (.call I.slices_choosePivotOrdered_int [.tmp 43, .tmp 44, .tmp 45]),
 Dd 42 (.mv (.tmp 46)),
 Dd 47 (.extract (.tmp 42) 0),
 Dd 48 (.extract (.tmp 42) 1),
 Dd 11 (.mv (.tmp 47)),
 Dd 12 (.mv (.tmp 48))]
def F.slices_pdqsortOrdered_int.r11 : List DOp := [
 Dd 49 (.mv (.tmp 12)),
 Dd 50 (.bin .eql (.tmp 49) (.const (.int .i64 2)))]
def F.slices_pdqsortOrdered_int.r12 : List DOp := [
 Dd 51 (.mv (.tmp 0)),
 Dd 52 (.mv (.tmp 1)),
 Dd 53 (.mv (.tmp 2)),
 Dd 54 (.call I.slices_reverseRangeOrdered_int [.tmp 51, .tmp 52, .tmp 53])]
def F.slices_pdqsortOrdered_int.r13 : List DOp := [
 Dd 55 (.mv (.tmp 2)),
 Dd 56 (.bin .sub (.tmp 55) (.const (.int .i64 1))),
 Dd 57 (.mv (.tmp 11)),
 Dd 58 (.mv (.tmp 1)),
 Dd 59 (.bin .sub (.tmp 57) (.tmp 58)),
 Dd 60 (.bin .sub (.tmp 56) (.tmp 59)),
 Dd 11 (.mv (.tmp 60))]
def F.slices_pdqsortOrdered_int.r14 : List DOp := [
 Dd 12 (.mv (.const (.int .i64 1)))]
def F.slices_pdqsortOrdered_int.r15 : List DOp := [
 Dd 61 (.mv (.tmp 8)),
 Dd 62 (.mv (.tmp 61)),
 ⟨some 63, .mv (.tmp 9), (some (62, true)), []⟩,
 Dd 64 (.pick (.tmp 62) (.tmp 63) (.const (.bool false))),
 Dd 65 (.mv (.tmp 64)),
 ⟨some 66, .mv (.tmp 12), (some (65, true)), []⟩,
 ⟨some 67, .bin .eql (.tmp 66) (.const (.int .i64 1)), (some (65, true)), []⟩,
 Dd 68 (.pick (.tmp 65) (.tmp 67) (.const (.bool false)))]
def F.slices_pdqsortOrdered_int.r16 : List DOp := [
 Dd 69 (.mv (.tmp 0)),
 Dd 70 (.mv (.tmp 1)),
 Dd 71 (.mv (.tmp 2)),
 Dd 72 (.call I.slices_partialInsertionSortOrdered_int [.tmp 69, .tmp 70, .tmp 71])]
def F.slices_pdqsortOrdered_int.r17 : List DOp := [
 Dd 73 (.mv (.tmp 1)),
 Dd 74 (.bin .gtr (.tmp 73) (.const (.int .i64 0))),
 Dd 75 (.mv (.tmp 74)),
 ⟨some 76, .mv (.tmp 0), (some (75, true)), []⟩,
 ⟨some 77, .mv (.tmp 1), (some (75, true)), []⟩,
 ⟨some 78, .bin .sub (.tmp 77) (.const (.int .i64 1)), (some (75, true)), []⟩,
 ⟨some 79, .idxs 1 (.tmp 76) (.tmp 78), (some (75, true)), []⟩,
 ⟨some 80, .load 1 false (.tmp 79), (some (75, true)), []⟩,
 ⟨some 81, .mv (.tmp 0), (some (75, true)), []⟩,
 ⟨some 82, .mv (.tmp 11), (some (75, true)), []⟩,
 ⟨some 83, .idxs 1 (.tmp 81) (.tmp 82), (some (75, true)), []⟩,
 ⟨some 84, .load 1 false (.tmp 83), (some (75, true)), []⟩,
 ⟨some 85, .call I.cmp_Less_int [.tmp 80, .tmp 84], (some (75, true)), []⟩,
 ⟨some 86, .un .not (.tmp 85), (some (75, true)), []⟩,
 Dd 87 (.pick (.tmp 75) (.tmp 86) (.const (.bool false)))]
def F.slices_pdqsortOrdered_int.r18 : List DOp := [
 Dd 88 (.mv (.tmp 0)),
 Dd 89 (.mv (.tmp 1)),
 Dd 90 (.mv (.tmp 2)),
 Dd 91 (.mv (.tmp 11)),
 Dd 92 (.call I.slices_partitionEqualOrdered_int [.tmp 88, .tmp 89, .tmp 90, .tmp 91]),
 Dd 13 (.mv (.tmp 92))]
def F.slices_pdqsortOrdered_int.r19 : List DOp := [
 Dd 93 (.mv (.tmp 13)),
 Dd 1 (.mv (.tmp 93))]
def F.slices_pdqsortOrdered_int.r20 : List DOp := [
 Dd 95 (.mv (.tmp 0)),
 Dd 96 (.mv (.tmp 1)),
 Dd 97 (.mv (.tmp 2)),
 Dd 98 (.mv (.tmp 11)),
 Dd 99 (.call I.slices_partitionOrdered_int [.tmp 95, .tmp 96, .tmp 97, .tmp 98]),
 Dd 94 (.mv (.tmp 99)),
 Dd 100 (.extract (.tmp 94) 0),
 Dd 101 (.extract (.tmp 94) 1),
 Dd 14 (.mv (.tmp 100)),
 Dd 15 (.mv (.tmp 101))]
def F.slices_pdqsortOrdered_int.r21 : List DOp := [
 Dd 102 (.mv (.tmp 15)),
 Dd 9 (.mv (.tmp 102))]
def F.slices_pdqsortOrdered_int.r22 : List DOp := [
 Dd 103 (.mv (.tmp 14)),
 Dd 104 (.mv (.tmp 1)),
 Dd 105 (.bin .sub (.tmp 103) (.tmp 104)),
 Dd 106 (.mv (.tmp 2)),
 Dd 107 (.mv (.tmp 14)),
 Dd 108 (.bin .sub (.tmp 106) (.tmp 107)),
 Dd 16 (.mv (.tmp 105)),
 Dd 17 (.mv (.tmp 108))]
def F.slices_pdqsortOrdered_int.r23 : List DOp := [
 Dd 109 (.mv (.tmp 10)),
 Dd 110 (.bin .quo (.tmp 109) (.const (.int .i64 8))),
 Dd 18 (.mv (.tmp 110))]
def F.slices_pdqsortOrdered_int.r24 : List DOp := [
 Dd 111 (.mv (.tmp 16)),
 Dd 112 (.mv (.tmp 17)),
 Dd 113 (.bin .lss (.tmp 111) (.tmp 112))]
def F.slices_pdqsortOrdered_int.r25 : List DOp := [
 Dd 114 (.mv (.tmp 16)),
 Dd 115 (.mv (.tmp 18)),
 Dd 116 (.bin .geq (.tmp 114) (.tmp 115)),
 Dd 8 (.mv (.tmp 116))]
def F.slices_pdqsortOrdered_int.r26 : List DOp := [
 Dd 117 (.mv (.tmp 0)),
 Dd 118 (.mv (.tmp 1)),
 Dd 119 (.mv (.tmp 14)),
 Dd 120 (.mv (.tmp 3)),
 Dd 121 (.call I.slices_pdqsortOrdered_int [.tmp 117, .tmp 118, .tmp 119, .tmp 120])]
def F.slices_pdqsortOrdered_int.r27 : List DOp := [
 Dd 122 (.mv (.tmp 14)),
 Dd 123 (.bin .add (.tmp 122) (.const (.int .i64 1))),
 Dd 1 (.mv (.tmp 123))]
def F.slices_pdqsortOrdered_int.r28 : List DOp := [
 Dd 124 (.mv (.tmp 17)),
 Dd 125 (.mv (.tmp 18)),
 Dd 126 (.bin .geq (.tmp 124) (.tmp 125)),
 Dd 8 (.mv (.tmp 126))]
def F.slices_pdqsortOrdered_int.r29 : List DOp := [
 Dd 127 (.mv (.tmp 0)),
 Dd 128 (.mv (.tmp 14)),
 Dd 129 (.bin .add (.tmp 128) (.const (.int .i64 1))),
 Dd 130 (.mv (.tmp 2)),
 Dd 131 (.mv (.tmp 3)),
 Dd 132 (.call I.slices_pdqsortOrdered_int [.tmp 127, .tmp 129, .tmp 130, .tmp 131])]
def F.slices_pdqsortOrdered_int.r30 : List DOp := [
 Dd 133 (.mv (.tmp 14)),
 Dd 2 (.mv (.tmp 133))]
def F.slices_pdqsortOrdered_int.L0 : ACode := .block 1 (.seq (.region F.slices_pdqsortOrdered_int.r2) (.seq (.seq (.region F.slices_pdqsortOrdered_int.r3) (.cond (.tmp 23) (.seq (.region F.slices_pdqsortOrdered_int.r4) (.ret)) (.skip))) (.seq (.seq (.region F.slices_pdqsortOrdered_int.r5) (.cond (.tmp 29) (.seq (.region F.slices_pdqsortOrdered_int.r6) (.ret)) (.skip))) (.seq (.seq (.region F.slices_pdqsortOrdered_int.r7) (.cond (.tmp 35) (.seq (.region F.slices_pdqsortOrdered_int.r8) (.region F.slices_pdqsortOrdered_int.r9)) (.skip))) (.seq (.region F.slices_pdqsortOrdered_int.r10) (.seq (.seq (.region F.slices_pdqsortOrdered_int.r11) (.cond (.tmp 50) (.seq (.region F.slices_pdqsortOrdered_int.r12) (.seq (.region F.slices_pdqsortOrdered_int.r13) (.region F.slices_pdqsortOrdered_int.r14))) (.skip))) (.seq (.seq (.region F.slices_pdqsortOrdered_int.r15) (.cond (.tmp 68) (.seq (.region F.slices_pdqsortOrdered_int.r16) (.cond (.tmp 72) (.ret) (.skip))) (.skip))) (.seq (.seq (.draw F.slices_pdqsortOrdered_int.r17 []) (.cond (.tmp 87) (.seq (.region F.slices_pdqsortOrdered_int.r18) (.seq (.region F.slices_pdqsortOrdered_int.r19) (.exit 1))) (.skip))) (.seq (.region F.slices_pdqsortOrdered_int.r20) (.seq (.region F.slices_pdqsortOrdered_int.r21) (.seq (.region F.slices_pdqsortOrdered_int.r22) (.seq (.region F.slices_pdqsortOrdered_int.r23) (.seq (.region F.slices_pdqsortOrdered_int.r24) (.cond (.tmp 113) (.seq (.region F.slices_pdqsortOrdered_int.r25) (.seq (.region F.slices_pdqsortOrdered_int.r26) (.region F.slices_pdqsortOrdered_int.r27))) (.seq (.region F.slices_pdqsortOrdered_int.r28) (.seq (.region F.slices_pdqsortOrdered_int.r29) (.region F.slices_pdqsortOrdered_int.r30)))))))))))))))))
def F.slices_pdqsortOrdered_int.c : ACode := .seq (.region F.slices_pdqsortOrdered_int.r0) (.seq (.region F.slices_pdqsortOrdered_int.r1) (.block 0 (.loop F.slices_pdqsortOrdered_int.L0)))
def F.slices_pdqsortOrdered_int : AFunc := ⟨F.slices_pdqsortOrdered_int.c, []⟩
/-! slices.insertionSortOrdered[int] -/
def F.slices_insertionSortOrdered_int.r0 : List DOp := [
 Dd 8 (.mv (.tmp 1)),
 Dd 9 (.bin .add (.tmp 8) (.const (.int .i64 1))),
 Dd 6 (.mv (.tmp 9))]
def F.slices_insertionSortOrdered_int.r1 : List DOp := [
 Dd 10 (.mv (.tmp 6)),
 Dd 11 (.mv (.tmp 2)),
 Dd 12 (.bin .lss (.tmp 10) (.tmp 11))]
def F.slices_insertionSortOrdered_int.r3 : List DOp := [
 Dd 15 (.mv (.tmp 6)),
 Dd 7 (.mv (.tmp 15))]
def F.slices_insertionSortOrdered_int.r4 : List DOp := [
 Dd 16 (.mv (.tmp 7)),
 Dd 17 (.mv (.tmp 1)),
 Dd 18 (.bin .gtr (.tmp 16) (.tmp 17)),
 Dd 19 (.mv (.tmp 18)),
 ⟨some 20, .mv (.tmp 0), (some (19, true)), []⟩,
 ⟨some 21, .mv (.tmp 7), (some (19, true)), []⟩,
 ⟨some 22, .idxs 1 (.tmp 20) (.tmp 21), (some (19, true)), []⟩,
 ⟨some 23, .load 1 false (.tmp 22), (some (19, true)), []⟩,
 ⟨some 24, .mv (.tmp 0), (some (19, true)), []⟩,
 ⟨some 25, .mv (.tmp 7), (some (19, true)), []⟩,
 ⟨some 26, .bin .sub (.tmp 25) (.const (.int .i64 1)), (some (19, true)), []⟩,
 ⟨some 27, .idxs 1 (.tmp 24) (.tmp 26), (some (19, true)), []⟩,
 ⟨some 28, .load 1 false (.tmp 27), (some (19, true)), []⟩,
 ⟨some 29, .call I.cmp_Less_int [.tmp 23, .tmp 28], (some (19, true)), []⟩,
 Dd 30 (.pick (.tmp 19) (.tmp 29) (.const (.bool false)))]
def F.slices_insertionSortOrdered_int.r6 : List DOp := [
 Dd 33 (.mv (.tmp 0)),
 Dd 34 (.mv (.tmp 7)),
 Dd 35 (.mv (.tmp 0)),
 Dd 36 (.mv (.tmp 7)),
 Dd 37 (.bin .sub (.tmp 36) (.const (.int .i64 1))),
 Dd 38 (.mv (.tmp 0)),
 Dd 39 (.mv (.tmp 7)),
 Dd 40 (.bin .sub (.tmp 39) (.const (.int .i64 1))),
 Dd 41 (.idxs 1 (.tmp 38) (.tmp 40)),
 Dd 42 (.load 1 false (.tmp 41)),
 Dd 43 (.mv (.tmp 0)),
 Dd 44 (.mv (.tmp 7)),
 Dd 45 (.idxs 1 (.tmp 43) (.tmp 44)),
 Dd 46 (.load 1 false (.tmp 45)),
 Dd 47 (.idxs 1 (.tmp 33) (.tmp 34)),
 De (.store 1 (.tmp 47) (.tmp 42)),
 Dd 48 (.idxs 1 (.tmp 35) (.tmp 37)),
 De (.store 1 (.tmp 48) (.tmp 46))]
def F.slices_insertionSortOrdered_int.r5 : List DOp := [
 Dd 31 (.mv (.tmp 7)),
 Dd 32 (.bin .sub (.tmp 31) (.const (.int .i64 1))),
 Dd 7 (.mv (.tmp 32))]
def F.slices_insertionSortOrdered_int.L1 : ACode := .seq (.seq (.draw F.slices_insertionSortOrdered_int.r4 []) (.cond (.tmp 30) (.skip) (.exit 2))) (.seq (.block 3 (.draw F.slices_insertionSortOrdered_int.r6 [])) (.region F.slices_insertionSortOrdered_int.r5))
def F.slices_insertionSortOrdered_int.r2 : List DOp := [
 Dd 13 (.mv (.tmp 6)),
 Dd 14 (.bin .add (.tmp 13) (.const (.int .i64 1))),
 Dd 6 (.mv (.tmp 14))]
def F.slices_insertionSortOrdered_int.L0 : ACode := .seq (.seq (.region F.slices_insertionSortOrdered_int.r1) (.cond (.tmp 12) (.skip) (.exit 0))) (.seq (.block 1 (.seq (.region F.slices_insertionSortOrdered_int.r3) (.block 2 (.loop F.slices_insertionSortOrdered_int.L1)))) (.region F.slices_insertionSortOrdered_int.r2))
def F.slices_insertionSortOrdered_int.c : ACode := .seq (.region F.slices_insertionSortOrdered_int.r0) (.block 0 (.loop F.slices_insertionSortOrdered_int.L0))
def F.slices_insertionSortOrdered_int : AFunc := ⟨F.slices_insertionSortOrdered_int.c, []⟩
/-! slices.heapSortOrdered[int] -/
def F.slices_heapSortOrdered_int.r0 : List DOp := [
 Dd 11 (.mv (.tmp 1)),
 Dd 6 (.mv (.tmp 11))]
def F.slices_heapSortOrdered_int.r1 : List DOp := [
 Dd 7 (.mv (.const (.int .i64 0)))]
def F.slices_heapSortOrdered_int.r2 : List DOp := [
 Dd 12 (.mv (.tmp 2)),
 Dd 13 (.mv (.tmp 1)),
 Dd 14 (.bin .sub (.tmp 12) (.tmp 13)),
 Dd 8 (.mv (.tmp 14))]
def F.slices_heapSortOrdered_int.r3 : List DOp := [
 Dd 15 (.mv (.tmp 8)),
 Dd 16 (.bin .sub (.tmp 15) (.const (.int .i64 1))),
 Dd 17 (.bin .quo (.tmp 16) (.const (.int .i64 2))),
 Dd 9 (.mv (.tmp 17))]
def F.slices_heapSortOrdered_int.r4 : List DOp := [
 Dd 18 (.mv (.tmp 9)),
 Dd 19 (.bin .geq (.tmp 18) (.const (.int .i64 0)))]
def F.slices_heapSortOrdered_int.r6 : List DOp := [
 Dd 22 (.mv (.tmp 0)),
 Dd 23 (.mv (.tmp 9)),
 Dd 24 (.mv (.tmp 8)),
 Dd 25 (.mv (.tmp 6)),
 Dd 26 (.call I.slices_siftDownOrdered_int [.tmp 22, .tmp 23, .tmp 24, .tmp 25])]
def F.slices_heapSortOrdered_int.r5 : List DOp := [
 Dd 20 (.mv (.tmp 9)),
 Dd 21 (.bin .sub (.tmp 20) (.const (.int .i64 1))),
 Dd 9 (.mv (.tmp 21))]
def F.slices_heapSortOrdered_int.L0 : ACode := .seq (.seq (.region F.slices_heapSortOrdered_int.r4) (.cond (.tmp 19) (.skip) (.exit 0))) (.seq (.block 1 (.region F.slices_heapSortOrdered_int.r6)) (.region F.slices_heapSortOrdered_int.r5))
def F.slices_heapSortOrdered_int.r7 : List DOp := [
 Dd 27 (.mv (.tmp 8)),
 Dd 28 (.bin .sub (.tmp 27) (.const (.int .i64 1))),
 Dd 10 (.mv (.tmp 28))]
def F.slices_heapSortOrdered_int.r8 : List DOp := [
 Dd 29 (.mv (.tmp 10)),
 Dd 30 (.bin .geq (.tmp 29) (.const (.int .i64 0)))]
def F.slices_heapSortOrdered_int.r10 : List DOp := [
 Dd 33 (.mv (.tmp 0)),
 Dd 34 (.mv (.tmp 6)),
 Dd 35 (.mv (.tmp 0)),
 Dd 36 (.mv (.tmp 6)),
 Dd 37 (.mv (.tmp 10)),
 Dd 38 (.bin .add (.tmp 36) (.tmp 37)),
 Dd 39 (.mv (.tmp 0)),
 Dd 40 (.mv (.tmp 6)),
 Dd 41 (.mv (.tmp 10)),
 Dd 42 (.bin .add (.tmp 40) (.tmp 41)),
 Dd 43 (.idxs 1 (.tmp 39) (.tmp 42)),
 Dd 44 (.load 1 false (.tmp 43)),
 Dd 45 (.mv (.tmp 0)),
 Dd 46 (.mv (.tmp 6)),
 Dd 47 (.idxs 1 (.tmp 45) (.tmp 46)),
 Dd 48 (.load 1 false (.tmp 47)),
 Dd 49 (.idxs 1 (.tmp 33) (.tmp 34)),
 De (.store 1 (.tmp 49) (.tmp 44)),
 Dd 50 (.idxs 1 (.tmp 35) (.tmp 38)),
 De (.store 1 (.tmp 50) (.tmp 48))]
def F.slices_heapSortOrdered_int.r11 : List DOp := [
 Dd 51 (.mv (.tmp 0)),
 Dd 52 (.mv (.tmp 7)),
 Dd 53 (.mv (.tmp 10)),
 Dd 54 (.mv (.tmp 6)),
 Dd 55 (.call I.slices_siftDownOrdered_int [.tmp 51, .tmp 52, .tmp 53, .tmp 54])]
def F.slices_heapSortOrdered_int.r9 : List DOp := [
 Dd 31 (.mv (.tmp 10)),
 Dd 32 (.bin .sub (.tmp 31) (.const (.int .i64 1))),
 Dd 10 (.mv (.tmp 32))]
def F.slices_heapSortOrdered_int.L1 : ACode := .seq (.seq (.region F.slices_heapSortOrdered_int.r8) (.cond (.tmp 30) (.skip) (.exit 2))) (.seq (.block 3 (.seq (.draw F.slices_heapSortOrdered_int.r10 []) (.region F.slices_heapSortOrdered_int.r11))) (.region F.slices_heapSortOrdered_int.r9))
def F.slices_heapSortOrdered_int.c : ACode := .seq (.region F.slices_heapSortOrdered_int.r0) (.seq (.region F.slices_heapSortOrdered_int.r1) (.seq (.region F.slices_heapSortOrdered_int.r2) (.seq (.seq (.region F.slices_heapSortOrdered_int.r3) (.block 0 (.loop F.slices_heapSortOrdered_int.L0))) (.seq (.region F.slices_heapSortOrdered_int.r7) (.block 2 (.loop F.slices_heapSortOrdered_int.L1))))))
def F.slices_heapSortOrdered_int : AFunc := ⟨F.slices_heapSortOrdered_int.c, []⟩
/-! slices.breakPatternsOrdered[int] -/
def F.slices_breakPatternsOrdered_int.r0 : List DOp := [
 Dd 11 (.mv (.tmp 2)),
 Dd 12 (.mv (.tmp 1)),
 Dd 13 (.bin .sub (.tmp 11) (.tmp 12)),
 Dd 6 (.mv (.tmp 13))]
def F.slices_breakPatternsOrdered_int.r1 : List DOp := [
 Dd 14 (.mv (.tmp 6)),
 Dd 15 (.bin .geq (.tmp 14) (.const (.int .i64 8)))]
def F.slices_breakPatternsOrdered_int.r2 : List DOp := [
 Dd 16 (.mv (.tmp 6)),
 Dd 17 (.conv .u64 (.tmp 16)),
 Dd 7 (.alloc [.int .u64 0]),
 De (.store 1 (.tmp 7) (.tmp 17))]
def F.slices_breakPatternsOrdered_int.r3 : List DOp := [
 Dd 18 (.mv (.tmp 6)),
 Dd 19 (.call I.slices_nextPowerOfTwo [.tmp 18]),
 Dd 8 (.mv (.tmp 19))]
def F.slices_breakPatternsOrdered_int.r4 : List DOp := [
 Dd 20 (.mv (.tmp 1)),
 Dd 21 (.mv (.tmp 6)),
 Dd 22 (.bin .quo (.tmp 21) (.const (.int .i64 4))),
 Dd 23 (.bin .mul (.tmp 22) (.const (.int .i64 2))),
 Dd 24 (.bin .add (.tmp 20) (.tmp 23)),
 Dd 25 (.bin .sub (.tmp 24) (.const (.int .i64 1))),
 Dd 9 (.mv (.tmp 25))]
def F.slices_breakPatternsOrdered_int.r5 : List DOp := [
 Dd 26 (.mv (.tmp 9)),
 Dd 27 (.mv (.tmp 1)),
 Dd 28 (.mv (.tmp 6)),
 Dd 29 (.bin .quo (.tmp 28) (.const (.int .i64 4))),
 Dd 30 (.bin .mul (.tmp 29) (.const (.int .i64 2))),
 Dd 31 (.bin .add (.tmp 27) (.tmp 30)),
 Dd 32 (.bin .add (.tmp 31) (.const (.int .i64 1))),
 Dd 33 (.bin .leq (.tmp 26) (.tmp 32))]
def F.slices_breakPatternsOrdered_int.r7 : List DOp := [
 Dd 36 (.call I.slices_xorshift_Next [.tmp 7]),
 Dd 37 (.mv (.tmp 8)),
 Dd 38 (.bin .sub (.tmp 37) (.const (.int .u64 1))),
 Dd 39 (.bin .and (.tmp 36) (.tmp 38)),
 Dd 40 (.conv .i64 (.tmp 39)),
 Dd 10 (.mv (.tmp 40))]
def F.slices_breakPatternsOrdered_int.r8 : List DOp := [
 Dd 41 (.mv (.tmp 10)),
 Dd 42 (.mv (.tmp 6)),
 Dd 43 (.bin .geq (.tmp 41) (.tmp 42))]
def F.slices_breakPatternsOrdered_int.r9 : List DOp := [
 Dd 44 (.mv (.tmp 10)),
 Dd 45 (.mv (.tmp 6)),
 Dd 46 (.bin .sub (.tmp 44) (.tmp 45)),
 Dd 10 (.mv (.tmp 46))]
def F.slices_breakPatternsOrdered_int.r10 : List DOp := [
 Dd 47 (.mv (.tmp 0)),
 Dd 48 (.mv (.tmp 9)),
 Dd 49 (.mv (.tmp 0)),
 Dd 50 (.mv (.tmp 1)),
 Dd 51 (.mv (.tmp 10)),
 Dd 52 (.bin .add (.tmp 50) (.tmp 51)),
 Dd 53 (.mv (.tmp 0)),
 Dd 54 (.mv (.tmp 1)),
 Dd 55 (.mv (.tmp 10)),
 Dd 56 (.bin .add (.tmp 54) (.tmp 55)),
 Dd 57 (.idxs 1 (.tmp 53) (.tmp 56)),
 Dd 58 (.load 1 false (.tmp 57)),
 Dd 59 (.mv (.tmp 0)),
 Dd 60 (.mv (.tmp 9)),
 Dd 61 (.idxs 1 (.tmp 59) (.tmp 60)),
 Dd 62 (.load 1 false (.tmp 61)),
 Dd 63 (.idxs 1 (.tmp 47) (.tmp 48)),
 De (.store 1 (.tmp 63) (.tmp 58)),
 Dd 64 (.idxs 1 (.tmp 49) (.tmp 52)),
 De (.store 1 (.tmp 64) (.tmp 62))]
def F.slices_breakPatternsOrdered_int.r6 : List DOp := [
 Dd 34 (.mv (.tmp 9)),
 Dd 35 (.bin .add (.tmp 34) (.const (.int .i64 1))),
 Dd 9 (.mv (.tmp 35))]
def F.slices_breakPatternsOrdered_int.L0 : ACode := .seq (.seq (.region F.slices_breakPatternsOrdered_int.r5) (.cond (.tmp 33) (.skip) (.exit 0))) (.seq (.block 1 (.seq (.region F.slices_breakPatternsOrdered_int.r7) (.seq (.seq (.region F.slices_breakPatternsOrdered_int.r8) (.cond (.tmp 43) (.region F.slices_breakPatternsOrdered_int.r9) (.skip))) (.draw F.slices_breakPatternsOrdered_int.r10 [])))) (.region F.slices_breakPatternsOrdered_int.r6))
def F.slices_breakPatternsOrdered_int.c : ACode := .seq (.region F.slices_breakPatternsOrdered_int.r0) (.seq (.region F.slices_breakPatternsOrdered_int.r1) (.cond (.tmp 15) (.seq (.region F.slices_breakPatternsOrdered_int.r2) (.seq (.region F.slices_breakPatternsOrdered_int.r3) (.seq (.region F.slices_breakPatternsOrdered_int.r4) (.block 0 (.loop F.slices_breakPatternsOrdered_int.L0))))) (.skip)))
def F.slices_breakPatternsOrdered_int : AFunc := ⟨F.slices_breakPatternsOrdered_int.c, []⟩
/-! slices.choosePivotOrdered[int] -/
def F.slices_choosePivotOrdered_int.r0 : List DOp := [
 Dd 6 (.mv (.const (.int .i64 0))),
 Dd 7 (.mv (.const (.int .i64 0)))]
def F.slices_choosePivotOrdered_int.r1 : List DOp := [
 Dd 13 (.mv (.tmp 2)),
 Dd 14 (.mv (.tmp 1)),
 Dd 15 (.bin .sub (.tmp 13) (.tmp 14)),
 Dd 8 (.mv (.tmp 15))]
def F.slices_choosePivotOrdered_int.r2 : List DOp := [
 Dd 9 (.alloc [.int .i64 0])]
def F.slices_choosePivotOrdered_int.r3 : List DOp := [
 Dd 16 (.mv (.tmp 1)),
 Dd 17 (.mv (.tmp 8)),
 Dd 18 (.bin .quo (.tmp 17) (.const (.int .i64 4))),
 Dd 19 (.bin .mul (.tmp 18) (.const (.int .i64 1))),
 Dd 20 (.bin .add (.tmp 16) (.tmp 19)),
 Dd 10 (.mv (.tmp 20))]
def F.slices_choosePivotOrdered_int.r4 : List DOp := [
 Dd 21 (.mv (.tmp 1)),
 Dd 22 (.mv (.tmp 8)),
 Dd 23 (.bin .quo (.tmp 22) (.const (.int .i64 4))),
 Dd 24 (.bin .mul (.tmp 23) (.const (.int .i64 2))),
 Dd 25 (.bin .add (.tmp 21) (.tmp 24)),
 Dd 11 (.mv (.tmp 25))]
def F.slices_choosePivotOrdered_int.r5 : List DOp := [
 Dd 26 (.mv (.tmp 1)),
 Dd 27 (.mv (.tmp 8)),
 Dd 28 (.bin .quo (.tmp 27) (.const (.int .i64 4))),
 Dd 29 (.bin .mul (.tmp 28) (.const (.int .i64 3))),
 Dd 30 (.bin .add (.tmp 26) (.tmp 29)),
 Dd 12 (.mv (.tmp 30))]
def F.slices_choosePivotOrdered_int.r6 : List DOp := [
 Dd 31 (.mv (.tmp 8)),
 Dd 32 (.bin .geq (.tmp 31) (.const (.int .i64 8)))]
def F.slices_choosePivotOrdered_int.r7 : List DOp := [
 Dd 33 (.mv (.tmp 8)),
 Dd 34 (.bin .geq (.tmp 33) (.const (.int .i64 50)))]
def F.slices_choosePivotOrdered_int.r8 : List DOp := [
 Dd 35 (.mv (.tmp 0)),
 Dd 36 (.mv (.tmp 10)),
 Dd 37 (.call I.slices_medianAdjacentOrdered_int [.tmp 35, .tmp 36, .tmp 9]),
 Dd 10 (.mv (.tmp 37))]
def F.slices_choosePivotOrdered_int.r9 : List DOp := [
 Dd 38 (.mv (.tmp 0)),
 Dd 39 (.mv (.tmp 11)),
 Dd 40 (.call I.slices_medianAdjacentOrdered_int [.tmp 38, .tmp 39, .tmp 9]),
 Dd 11 (.mv (.tmp 40))]
def F.slices_choosePivotOrdered_int.r10 : List DOp := [
 Dd 41 (.mv (.tmp 0)),
 Dd 42 (.mv (.tmp 12)),
 Dd 43 (.call I.slices_medianAdjacentOrdered_int [.tmp 41, .tmp 42, .tmp 9]),
 Dd 12 (.mv (.tmp 43))]
def F.slices_choosePivotOrdered_int.r11 : List DOp := [
 Dd 44 (.mv (.tmp 0)),
 Dd 45 (.mv (.tmp 10)),
 Dd 46 (.mv (.tmp 11)),
 Dd 47 (.mv (.tmp 12)),
 Dd 48 (.call I.slices_medianOrdered_int [.tmp 44, .tmp 45, .tmp 46, .tmp 47, .tmp 9]),
 Dd 11 (.mv (.tmp 48))]
def F.slices_choosePivotOrdered_int.r12 : List DOp := [
 Dd 49 (.load 1 false (.tmp 9))]
def F.slices_choosePivotOrdered_int.r14 : List DOp := [
 Dd 52 (.bin .eql (.tmp 49) (.const (.int .i64 0))),
 Dd 51 (.mv (.tmp 52))]
def F.slices_choosePivotOrdered_int.r15 : List DOp := [
 Dd 53 (.mv (.tmp 11)),
 Dd 6 (.mv (.tmp 53)),
 Dd 7 (.mv (.const (.int .i64 1)))]
def F.slices_choosePivotOrdered_int.r16 : List DOp := [
 Dd 55 (.bin .eql (.tmp 49) (.const (.int .i64 12))),
 Dd 54 (.mv (.tmp 55))]
def F.slices_choosePivotOrdered_int.r17 : List DOp := [
 Dd 56 (.mv (.tmp 11)),
 Dd 6 (.mv (.tmp 56)),
 Dd 7 (.mv (.const (.int .i64 2)))]
def F.slices_choosePivotOrdered_int.r13 : List DOp := [
 Dd 50 (.mv (.tmp 11)),
 Dd 6 (.mv (.tmp 50)),
 Dd 7 (.mv (.const (.int .i64 0)))]
def F.slices_choosePivotOrdered_int.c : ACode := .seq (.region F.slices_choosePivotOrdered_int.r0) (.seq (.region F.slices_choosePivotOrdered_int.r1) (.seq (.region F.slices_choosePivotOrdered_int.r2) (.seq (.region F.slices_choosePivotOrdered_int.r3) (.seq (.region F.slices_choosePivotOrdered_int.r4) (.seq (.region F.slices_choosePivotOrdered_int.r5) (.seq (.seq (.region F.slices_choosePivotOrdered_int.r6) (.cond (.tmp 32) (.seq (.seq (.region F.slices_choosePivotOrdered_int.r7) (.cond (.tmp 34) (.seq (.region F.slices_choosePivotOrdered_int.r8) (.seq (.region F.slices_choosePivotOrdered_int.r9) (.region F.slices_choosePivotOrdered_int.r10))) (.skip))) (.region F.slices_choosePivotOrdered_int.r11)) (.skip))) (.seq (.region F.slices_choosePivotOrdered_int.r12) (.block 0 (.seq (.region F.slices_choosePivotOrdered_int.r14) (.cond (.tmp 51) (.seq (.region F.slices_choosePivotOrdered_int.r15) (.ret)) (.seq (.region F.slices_choosePivotOrdered_int.r16) (.cond (.tmp 54) (.seq (.region F.slices_choosePivotOrdered_int.r17) (.ret)) (.seq (.region F.slices_choosePivotOrdered_int.r13) (.ret))))))))))))))
def F.slices_choosePivotOrdered_int : AFunc := ⟨F.slices_choosePivotOrdered_int.c, [.tmp 6, .tmp 7]⟩
/-! slices.reverseRangeOrdered[int] -/
def F.slices_reverseRangeOrdered_int.r0 : List DOp := [
 Dd 8 (.mv (.tmp 1)),
 Dd 6 (.mv (.tmp 8))]
def F.slices_reverseRangeOrdered_int.r1 : List DOp := [
 Dd 9 (.mv (.tmp 2)),
 Dd 10 (.bin .sub (.tmp 9) (.const (.int .i64 1))),
 Dd 7 (.mv (.tmp 10))]
def F.slices_reverseRangeOrdered_int.r2 : List DOp := [
 Dd 11 (.mv (.tmp 6)),
 Dd 12 (.mv (.tmp 7)),
 Dd 13 (.bin .lss (.tmp 11) (.tmp 12))]
def F.slices_reverseRangeOrdered_int.r3 : List DOp := [
 Dd 14 (.mv (.tmp 0)),
 Dd 15 (.mv (.tmp 6)),
 Dd 16 (.mv (.tmp 0)),
 Dd 17 (.mv (.tmp 7)),
 Dd 18 (.mv (.tmp 0)),
 Dd 19 (.mv (.tmp 7)),
 Dd 20 (.idxs 1 (.tmp 18) (.tmp 19)),
 Dd 21 (.load 1 false (.tmp 20)),
 Dd 22 (.mv (.tmp 0)),
 Dd 23 (.mv (.tmp 6)),
 Dd 24 (.idxs 1 (.tmp 22) (.tmp 23)),
 Dd 25 (.load 1 false (.tmp 24)),
 Dd 26 (.idxs 1 (.tmp 14) (.tmp 15)),
 De (.store 1 (.tmp 26) (.tmp 21)),
 Dd 27 (.idxs 1 (.tmp 16) (.tmp 17)),
 De (.store 1 (.tmp 27) (.tmp 25))]
def F.slices_reverseRangeOrdered_int.r4 : List DOp := [
 Dd 28 (.mv (.tmp 6)),
 Dd 29 (.bin .add (.tmp 28) (.const (.int .i64 1))),
 Dd 6 (.mv (.tmp 29))]
def F.slices_reverseRangeOrdered_int.r5 : List DOp := [
 Dd 30 (.mv (.tmp 7)),
 Dd 31 (.bin .sub (.tmp 30) (.const (.int .i64 1))),
 Dd 7 (.mv (.tmp 31))]
def F.slices_reverseRangeOrdered_int.L0 : ACode := .seq (.seq (.region F.slices_reverseRangeOrdered_int.r2) (.cond (.tmp 13) (.skip) (.exit 0))) (.block 1 (.seq (.draw F.slices_reverseRangeOrdered_int.r3 []) (.seq (.region F.slices_reverseRangeOrdered_int.r4) (.region F.slices_reverseRangeOrdered_int.r5))))
def F.slices_reverseRangeOrdered_int.c : ACode := .seq (.region F.slices_reverseRangeOrdered_int.r0) (.seq (.region F.slices_reverseRangeOrdered_int.r1) (.block 0 (.loop F.slices_reverseRangeOrdered_int.L0)))
def F.slices_reverseRangeOrdered_int : AFunc := ⟨F.slices_reverseRangeOrdered_int.c, []⟩
/-! slices.partialInsertionSortOrdered[int] -/
def F.slices_partialInsertionSortOrdered_int.r0 : List DOp := [
 Dd 6 (.mv (.const (.bool false)))]
def F.slices_partialInsertionSortOrdered_int.r1 : List DOp := [
 Dd 11 (.mv (.tmp 1)),
 Dd 12 (.bin .add (.tmp 11) (.const (.int .i64 1))),
 Dd 7 (.mv (.tmp 12))]
def F.slices_partialInsertionSortOrdered_int.r2 : List DOp := [
 Dd 8 (.mv (.const (.int .i64 0)))]
def F.slices_partialInsertionSortOrdered_int.r3 : List DOp := [
 Dd 13 (.mv (.tmp 8)),
 Dd 14 (.bin .lss (.tmp 13) (.const (.int .i64 5)))]
def F.slices_partialInsertionSortOrdered_int.r5 : List DOp := [
 Dd 17 (.mv (.tmp 7)),
 Dd 18 (.mv (.tmp 2)),
 Dd 19 (.bin .lss (.tmp 17) (.tmp 18)),
 Dd 20 (.mv (.tmp 19)),
 ⟨some 21, .mv (.tmp 0), (some (20, true)), []⟩,
 ⟨some 22, .mv (.tmp 7), (some (20, true)), []⟩,
 ⟨some 23, .idxs 1 (.tmp 21) (.tmp 22), (some (20, true)), []⟩,
 ⟨some 24, .load 1 false (.tmp 23), (some (20, true)), []⟩,
 ⟨some 25, .mv (.tmp 0), (some (20, true)), []⟩,
 ⟨some 26, .mv (.tmp 7), (some (20, true)), []⟩,
 ⟨some 27, .bin .sub (.tmp 26) (.const (.int .i64 1)), (some (20, true)), []⟩,
 ⟨some 28, .idxs 1 (.tmp 25) (.tmp 27), (some (20, true)), []⟩,
 ⟨some 29, .load 1 false (.tmp 28), (some (20, true)), []⟩,
 ⟨some 30, .call I.cmp_Less_int [.tmp 24, .tmp 29], (some (20, true)), []⟩,
 ⟨some 31, .un .not (.tmp 30), (some (20, true)), []⟩,
 Dd 32 (.pick (.tmp 20) (.tmp 31) (.const (.bool false)))]
def F.slices_partialInsertionSortOrdered_int.r6 : List DOp := [
 Dd 33 (.mv (.tmp 7)),
 Dd 34 (.bin .add (.tmp 33) (.const (.int .i64 1))),
 Dd 7 (.mv (.tmp 34))]
def F.slices_partialInsertionSortOrdered_int.L1 : ACode := .seq (.seq (.draw F.slices_partialInsertionSortOrdered_int.r5 []) (.cond (.tmp 32) (.skip) (.exit 2))) (.block 3 (.region F.slices_partialInsertionSortOrdered_int.r6))
def F.slices_partialInsertionSortOrdered_int.r7 : List DOp := [
 Dd 35 (.mv (.tmp 7)),
 Dd 36 (.mv (.tmp 2)),
 Dd 37 (.bin .eql (.tmp 35) (.tmp 36))]
def F.slices_partialInsertionSortOrdered_int.r8 : List DOp := [
 Dd 6 (.mv (.const (.bool true)))]
def F.slices_partialInsertionSortOrdered_int.r9 : List DOp := [
 Dd 38 (.mv (.tmp 2)),
 Dd 39 (.mv (.tmp 1)),
 Dd 40 (.bin .sub (.tmp 38) (.tmp 39)),
 Dd 41 (.bin .lss (.tmp 40) (.const (.int .i64 50)))]
def F.slices_partialInsertionSortOrdered_int.r10 : List DOp := [
 Dd 6 (.mv (.const (.bool false)))]
def F.slices_partialInsertionSortOrdered_int.r11 : List DOp := [
 Dd 42 (.mv (.tmp 0)),
 Dd 43 (.mv (.tmp 7)),
 Dd 44 (.mv (.tmp 0)),
 Dd 45 (.mv (.tmp 7)),
 Dd 46 (.bin .sub (.tmp 45) (.const (.int .i64 1))),
 Dd 47 (.mv (.tmp 0)),
 Dd 48 (.mv (.tmp 7)),
 Dd 49 (.bin .sub (.tmp 48) (.const (.int .i64 1))),
 Dd 50 (.idxs 1 (.tmp 47) (.tmp 49)),
 Dd 51 (.load 1 false (.tmp 50)),
 Dd 52 (.mv (.tmp 0)),
 Dd 53 (.mv (.tmp 7)),
 Dd 54 (.idxs 1 (.tmp 52) (.tmp 53)),
 Dd 55 (.load 1 false (.tmp 54)),
 Dd 56 (.idxs 1 (.tmp 42) (.tmp 43)),
 De (.store 1 (.tmp 56) (.tmp 51)),
 Dd 57 (.idxs 1 (.tmp 44) (.tmp 46)),
 De (.store 1 (.tmp 57) (.tmp 55))]
def F.slices_partialInsertionSortOrdered_int.r12 : List DOp := [
 Dd 58 (.mv (.tmp 7)),
 Dd 59 (.mv (.tmp 1)),
 Dd 60 (.bin .sub (.tmp 58) (.tmp 59)),
 Dd 61 (.bin .geq (.tmp 60) (.const (.int .i64 2)))]
def F.slices_partialInsertionSortOrdered_int.r13 : List DOp := [
 Dd 62 (.mv (.tmp 7)),
 Dd 63 (.bin .sub (.tmp 62) (.const (.int .i64 1))),
 Dd 9 (.mv (.tmp 63))]
def F.slices_partialInsertionSortOrdered_int.r14 : List DOp := [
 Dd 64 (.mv (.tmp 9)),
 Dd 65 (.bin .geq (.tmp 64) (.const (.int .i64 1)))]
def F.slices_partialInsertionSortOrdered_int.r16 : List DOp := [
 Dd 68 (.mv (.tmp 0)),
 Dd 69 (.mv (.tmp 9)),
 Dd 70 (.idxs 1 (.tmp 68) (.tmp 69)),
 Dd 71 (.load 1 false (.tmp 70)),
 Dd 72 (.mv (.tmp 0)),
 Dd 73 (.mv (.tmp 9)),
 Dd 74 (.bin .sub (.tmp 73) (.const (.int .i64 1))),
 Dd 75 (.idxs 1 (.tmp 72) (.tmp 74)),
 Dd 76 (.load 1 false (.tmp 75)),
 Dd 77 (.call I.cmp_Less_int [.tmp 71, .tmp 76]),
 Dd 78 (.un .not (.tmp 77))]
def F.slices_partialInsertionSortOrdered_int.r17 : List DOp := [
 Dd 79 (.mv (.tmp 0)),
 Dd 80 (.mv (.tmp 9)),
 Dd 81 (.mv (.tmp 0)),
 Dd 82 (.mv (.tmp 9)),
 Dd 83 (.bin .sub (.tmp 82) (.const (.int .i64 1))),
 Dd 84 (.mv (.tmp 0)),
 Dd 85 (.mv (.tmp 9)),
 Dd 86 (.bin .sub (.tmp 85) (.const (.int .i64 1))),
 Dd 87 (.idxs 1 (.tmp 84) (.tmp 86)),
 Dd 88 (.load 1 false (.tmp 87)),
 Dd 89 (.mv (.tmp 0)),
 Dd 90 (.mv (.tmp 9)),
 Dd 91 (.idxs 1 (.tmp 89) (.tmp 90)),
 Dd 92 (.load 1 false (.tmp 91)),
 Dd 93 (.idxs 1 (.tmp 79) (.tmp 80)),
 De (.store 1 (.tmp 93) (.tmp 88)),
 Dd 94 (.idxs 1 (.tmp 81) (.tmp 83)),
 De (.store 1 (.tmp 94) (.tmp 92))]
def F.slices_partialInsertionSortOrdered_int.r15 : List DOp := [
 Dd 66 (.mv (.tmp 9)),
 Dd 67 (.bin .sub (.tmp 66) (.const (.int .i64 1))),
 Dd 9 (.mv (.tmp 67))]
def F.slices_partialInsertionSortOrdered_int.L2 : ACode := .seq (.seq (.region F.slices_partialInsertionSortOrdered_int.r14) (.cond (.tmp 65) (.skip) (.exit 4))) (.seq (.block 5 (.seq (.seq (.draw F.slices_partialInsertionSortOrdered_int.r16 []) (.cond (.tmp 78) (.exit 4) (.skip))) (.draw F.slices_partialInsertionSortOrdered_int.r17 []))) (.region F.slices_partialInsertionSortOrdered_int.r15))
def F.slices_partialInsertionSortOrdered_int.r18 : List DOp := [
 Dd 95 (.mv (.tmp 2)),
 Dd 96 (.mv (.tmp 7)),
 Dd 97 (.bin .sub (.tmp 95) (.tmp 96)),
 Dd 98 (.bin .geq (.tmp 97) (.const (.int .i64 2)))]
def F.slices_partialInsertionSortOrdered_int.r19 : List DOp := [
 Dd 99 (.mv (.tmp 7)),
 Dd 100 (.bin .add (.tmp 99) (.const (.int .i64 1))),
 Dd 10 (.mv (.tmp 100))]
def F.slices_partialInsertionSortOrdered_int.r20 : List DOp := [
 Dd 101 (.mv (.tmp 10)),
 Dd 102 (.mv (.tmp 2)),
 Dd 103 (.bin .lss (.tmp 101) (.tmp 102))]
def F.slices_partialInsertionSortOrdered_int.r22 : List DOp := [
 Dd 106 (.mv (.tmp 0)),
 Dd 107 (.mv (.tmp 10)),
 Dd 108 (.idxs 1 (.tmp 106) (.tmp 107)),
 Dd 109 (.load 1 false (.tmp 108)),
 Dd 110 (.mv (.tmp 0)),
 Dd 111 (.mv (.tmp 10)),
 Dd 112 (.bin .sub (.tmp 111) (.const (.int .i64 1))),
 Dd 113 (.idxs 1 (.tmp 110) (.tmp 112)),
 Dd 114 (.load 1 false (.tmp 113)),
 Dd 115 (.call I.cmp_Less_int [.tmp 109, .tmp 114]),
 Dd 116 (.un .not (.tmp 115))]
def F.slices_partialInsertionSortOrdered_int.r23 : List DOp := [
 Dd 117 (.mv (.tmp 0)),
 Dd 118 (.mv (.tmp 10)),
 Dd 119 (.mv (.tmp 0)),
 Dd 120 (.mv (.tmp 10)),
 Dd 121 (.bin .sub (.tmp 120) (.const (.int .i64 1))),
 Dd 122 (.mv (.tmp 0)),
 Dd 123 (.mv (.tmp 10)),
 Dd 124 (.bin .sub (.tmp 123) (.const (.int .i64 1))),
 Dd 125 (.idxs 1 (.tmp 122) (.tmp 124)),
 Dd 126 (.load 1 false (.tmp 125)),
 Dd 127 (.mv (.tmp 0)),
 Dd 128 (.mv (.tmp 10)),
 Dd 129 (.idxs 1 (.tmp 127) (.tmp 128)),
 Dd 130 (.load 1 false (.tmp 129)),
 Dd 131 (.idxs 1 (.tmp 117) (.tmp 118)),
 De (.store 1 (.tmp 131) (.tmp 126)),
 Dd 132 (.idxs 1 (.tmp 119) (.tmp 121)),
 De (.store 1 (.tmp 132) (.tmp 130))]
def F.slices_partialInsertionSortOrdered_int.r21 : List DOp := [
 Dd 104 (.mv (.tmp 10)),
 Dd 105 (.bin .add (.tmp 104) (.const (.int .i64 1))),
 Dd 10 (.mv (.tmp 105))]
def F.slices_partialInsertionSortOrdered_int.L3 : ACode := .seq (.seq (.region F.slices_partialInsertionSortOrdered_int.r20) (.cond (.tmp 103) (.skip) (.exit 6))) (.seq (.block 7 (.seq (.seq (.draw F.slices_partialInsertionSortOrdered_int.r22 []) (.cond (.tmp 116) (.exit 6) (.skip))) (.draw F.slices_partialInsertionSortOrdered_int.r23 []))) (.region F.slices_partialInsertionSortOrdered_int.r21))
def F.slices_partialInsertionSortOrdered_int.r4 : List DOp := [
 Dd 15 (.mv (.tmp 8)),
 Dd 16 (.bin .add (.tmp 15) (.const (.int .i64 1))),
 Dd 8 (.mv (.tmp 16))]
def F.slices_partialInsertionSortOrdered_int.L0 : ACode := .seq (.seq (.region F.slices_partialInsertionSortOrdered_int.r3) (.cond (.tmp 14) (.skip) (.exit 0))) (.seq (.block 1 (.seq (.block 2 (.loop F.slices_partialInsertionSortOrdered_int.L1)) (.seq (.seq (.region F.slices_partialInsertionSortOrdered_int.r7) (.cond (.tmp 37) (.seq (.region F.slices_partialInsertionSortOrdered_int.r8) (.ret)) (.skip))) (.seq (.seq (.region F.slices_partialInsertionSortOrdered_int.r9) (.cond (.tmp 41) (.seq (.region F.slices_partialInsertionSortOrdered_int.r10) (.ret)) (.skip))) (.seq (.draw F.slices_partialInsertionSortOrdered_int.r11 []) (.seq (.seq (.region F.slices_partialInsertionSortOrdered_int.r12) (.cond (.tmp 61) (.seq (.region F.slices_partialInsertionSortOrdered_int.r13) (.block 4 (.loop F.slices_partialInsertionSortOrdered_int.L2))) (.skip))) (.seq (.region F.slices_partialInsertionSortOrdered_int.r18) (.cond (.tmp 98) (.seq (.region F.slices_partialInsertionSortOrdered_int.r19) (.block 6 (.loop F.slices_partialInsertionSortOrdered_int.L3))) (.skip))))))))) (.region F.slices_partialInsertionSortOrdered_int.r4))
def F.slices_partialInsertionSortOrdered_int.r24 : List DOp := [
 Dd 6 (.mv (.const (.bool false)))]
def F.slices_partialInsertionSortOrdered_int.c : ACode := .seq (.region F.slices_partialInsertionSortOrdered_int.r0) (.seq (.region F.slices_partialInsertionSortOrdered_int.r1) (.seq (.seq (.region F.slices_partialInsertionSortOrdered_int.r2) (.block 0 (.loop F.slices_partialInsertionSortOrdered_int.L0))) (.seq (.region F.slices_partialInsertionSortOrdered_int.r24) (.ret))))
def F.slices_partialInsertionSortOrdered_int : AFunc := ⟨F.slices_partialInsertionSortOrdered_int.c, [.tmp 6]⟩
/-! slices.partitionEqualOrdered[int] -/
def F.slices_partitionEqualOrdered_int.r0 : List DOp := [
 Dd 8 (.mv (.const (.int .i64 0)))]
def F.slices_partitionEqualOrdered_int.r1 : List DOp := [
 Dd 11 (.mv (.tmp 0)),
 Dd 12 (.mv (.tmp 1)),
 Dd 13 (.mv (.tmp 0)),
 Dd 14 (.mv (.tmp 3)),
 Dd 15 (.mv (.tmp 0)),
 Dd 16 (.mv (.tmp 3)),
 Dd 17 (.idxs 1 (.tmp 15) (.tmp 16)),
 Dd 18 (.load 1 false (.tmp 17)),
 Dd 19 (.mv (.tmp 0)),
 Dd 20 (.mv (.tmp 1)),
 Dd 21 (.idxs 1 (.tmp 19) (.tmp 20)),
 Dd 22 (.load 1 false (.tmp 21)),
 Dd 23 (.idxs 1 (.tmp 11) (.tmp 12)),
 De (.store 1 (.tmp 23) (.tmp 18)),
 Dd 24 (.idxs 1 (.tmp 13) (.tmp 14)),
 De (.store 1 (.tmp 24) (.tmp 22))]
def F.slices_partitionEqualOrdered_int.r2 : List DOp := [
 Dd 25 (.mv (.tmp 1)),
 Dd 26 (.bin .add (.tmp 25) (.const (.int .i64 1))),
 Dd 27 (.mv (.tmp 2)),
 Dd 28 (.bin .sub (.tmp 27) (.const (.int .i64 1))),
 Dd 9 (.mv (.tmp 26)),
 Dd 10 (.mv (.tmp 28))]
def F.slices_partitionEqualOrdered_int.r3 : List DOp := [
 Dd 29 (.mv (.tmp 9)),
 Dd 30 (.mv (.tmp 10)),
 Dd 31 (.bin .leq (.tmp 29) (.tmp 30)),
 Dd 32 (.mv (.tmp 31)),
 ⟨some 33, .mv (.tmp 0), (some (32, true)), []⟩,
 ⟨some 34, .mv (.tmp 1), (some (32, true)), []⟩,
 ⟨some 35, .idxs 1 (.tmp 33) (.tmp 34), (some (32, true)), []⟩,
 ⟨some 36, .load 1 false (.tmp 35), (some (32, true)), []⟩,
 ⟨some 37, .mv (.tmp 0), (some (32, true)), []⟩,
 ⟨some 38, .mv (.tmp 9), (some (32, true)), []⟩,
 ⟨some 39, .idxs 1 (.tmp 37) (.tmp 38), (some (32, true)), []⟩,
 ⟨some 40, .load 1 false (.tmp 39), (some (32, true)), []⟩,
 ⟨some 41, .call I.cmp_Less_int [.tmp 36, .tmp 40], (some (32, true)), []⟩,
 ⟨some 42, .un .not (.tmp 41), (some (32, true)), []⟩,
 Dd 43 (.pick (.tmp 32) (.tmp 42) (.const (.bool false)))]
def F.slices_partitionEqualOrdered_int.r4 : List DOp := [
 Dd 44 (.mv (.tmp 9)),
 Dd 45 (.bin .add (.tmp 44) (.const (.int .i64 1))),
 Dd 9 (.mv (.tmp 45))]
def F.slices_partitionEqualOrdered_int.L1 : ACode := .seq (.seq (.draw F.slices_partitionEqualOrdered_int.r3 []) (.cond (.tmp 43) (.skip) (.exit 2))) (.block 3 (.region F.slices_partitionEqualOrdered_int.r4))
def F.slices_partitionEqualOrdered_int.r5 : List DOp := [
 Dd 46 (.mv (.tmp 9)),
 Dd 47 (.mv (.tmp 10)),
 Dd 48 (.bin .leq (.tmp 46) (.tmp 47)),
 Dd 49 (.mv (.tmp 48)),
 ⟨some 50, .mv (.tmp 0), (some (49, true)), []⟩,
 ⟨some 51, .mv (.tmp 1), (some (49, true)), []⟩,
 ⟨some 52, .idxs 1 (.tmp 50) (.tmp 51), (some (49, true)), []⟩,
 ⟨some 53, .load 1 false (.tmp 52), (some (49, true)), []⟩,
 ⟨some 54, .mv (.tmp 0), (some (49, true)), []⟩,
 ⟨some 55, .mv (.tmp 10), (some (49, true)), []⟩,
 ⟨some 56, .idxs 1 (.tmp 54) (.tmp 55), (some (49, true)), []⟩,
 ⟨some 57, .load 1 false (.tmp 56), (some (49, true)), []⟩,
 ⟨some 58, .call I.cmp_Less_int [.tmp 53, .tmp 57], (some (49, true)), []⟩,
 Dd 59 (.pick (.tmp 49) (.tmp 58) (.const (.bool false)))]
def F.slices_partitionEqualOrdered_int.r6 : List DOp := [
 Dd 60 (.mv (.tmp 10)),
 Dd 61 (.bin .sub (.tmp 60) (.const (.int .i64 1))),
 Dd 10 (.mv (.tmp 61))]
def F.slices_partitionEqualOrdered_int.L2 : ACode := .seq (.seq (.draw F.slices_partitionEqualOrdered_int.r5 []) (.cond (.tmp 59) (.skip) (.exit 4))) (.block 5 (.region F.slices_partitionEqualOrdered_int.r6))
def F.slices_partitionEqualOrdered_int.r7 : List DOp := [
 Dd 62 (.mv (.tmp 9)),
 Dd 63 (.mv (.tmp 10)),
 Dd 64 (.bin .gtr (.tmp 62) (.tmp 63))]
def F.slices_partitionEqualOrdered_int.r8 : List DOp := [
 Dd 65 (.mv (.tmp 0)),
 Dd 66 (.mv (.tmp 9)),
 Dd 67 (.mv (.tmp 0)),
 Dd 68 (.mv (.tmp 10)),
 Dd 69 (.mv (.tmp 0)),
 Dd 70 (.mv (.tmp 10)),
 Dd 71 (.idxs 1 (.tmp 69) (.tmp 70)),
 Dd 72 (.load 1 false (.tmp 71)),
 Dd 73 (.mv (.tmp 0)),
 Dd 74 (.mv (.tmp 9)),
 Dd 75 (.idxs 1 (.tmp 73) (.tmp 74)),
 Dd 76 (.load 1 false (.tmp 75)),
 Dd 77 (.idxs 1 (.tmp 65) (.tmp 66)),
 De (.store 1 (.tmp 77) (.tmp 72)),
 Dd 78 (.idxs 1 (.tmp 67) (.tmp 68)),
 De (.store 1 (.tmp 78) (.tmp 76))]
def F.slices_partitionEqualOrdered_int.r9 : List DOp := [
 Dd 79 (.mv (.tmp 9)),
 Dd 80 (.bin .add (.tmp 79) (.const (.int .i64 1))),
 Dd 9 (.mv (.tmp 80))]
def F.slices_partitionEqualOrdered_int.r10 : List DOp := [
 Dd 81 (.mv (.tmp 10)),
 Dd 82 (.bin .sub (.tmp 81) (.const (.int .i64 1))),
 Dd 10 (.mv (.tmp 82))]
def F.slices_partitionEqualOrdered_int.L0 : ACode := .block 1 (.seq (.block 2 (.loop F.slices_partitionEqualOrdered_int.L1)) (.seq (.block 4 (.loop F.slices_partitionEqualOrdered_int.L2)) (.seq (.seq (.region F.slices_partitionEqualOrdered_int.r7) (.cond (.tmp 64) (.exit 0) (.skip))) (.seq (.draw F.slices_partitionEqualOrdered_int.r8 []) (.seq (.region F.slices_partitionEqualOrdered_int.r9) (.region F.slices_partitionEqualOrdered_int.r10))))))
def F.slices_partitionEqualOrdered_int.r11 : List DOp := [
 Dd 83 (.mv (.tmp 9)),
 Dd 8 (.mv (.tmp 83))]
def F.slices_partitionEqualOrdered_int.c : ACode := .seq (.region F.slices_partitionEqualOrdered_int.r0) (.seq (.draw F.slices_partitionEqualOrdered_int.r1 []) (.seq (.region F.slices_partitionEqualOrdered_int.r2) (.seq (.block 0 (.loop F.slices_partitionEqualOrdered_int.L0)) (.seq (.region F.slices_partitionEqualOrdered_int.r11) (.ret)))))
def F.slices_partitionEqualOrdered_int : AFunc := ⟨F.slices_partitionEqualOrdered_int.c, [.tmp 8]⟩
/-! slices.partitionOrdered[int] -/
def F.slices_partitionOrdered_int.r0 : List DOp := [
 Dd 8 (.mv (.const (.int .i64 0))),
 Dd 9 (.mv (.const (.bool false)))]
def F.slices_partitionOrdered_int.r1 : List DOp := [
 Dd 12 (.mv (.tmp 0)),
 Dd 13 (.mv (.tmp 1)),
 Dd 14 (.mv (.tmp 0)),
 Dd 15 (.mv (.tmp 3)),
 Dd 16 (.mv (.tmp 0)),
 Dd 17 (.mv (.tmp 3)),
 Dd 18 (.idxs 1 (.tmp 16) (.tmp 17)),
 Dd 19 (.load 1 false (.tmp 18)),
 Dd 20 (.mv (.tmp 0)),
 Dd 21 (.mv (.tmp 1)),
 Dd 22 (.idxs 1 (.tmp 20) (.tmp 21)),
 Dd 23 (.load 1 false (.tmp 22)),
 Dd 24 (.idxs 1 (.tmp 12) (.tmp 13)),
 De (.store 1 (.tmp 24) (.tmp 19)),
 Dd 25 (.idxs 1 (.tmp 14) (.tmp 15)),
 De (.store 1 (.tmp 25) (.tmp 23))]
def F.slices_partitionOrdered_int.r2 : List DOp := [
 Dd 26 (.mv (.tmp 1)),
 Dd 27 (.bin .add (.tmp 26) (.const (.int .i64 1))),
 Dd 28 (.mv (.tmp 2)),
 Dd 29 (.bin .sub (.tmp 28) (.const (.int .i64 1))),
 Dd 10 (.mv (.tmp 27)),
 Dd 11 (.mv (.tmp 29))]
def F.slices_partitionOrdered_int.r3 : List DOp := [
 Dd 30 (.mv (.tmp 10)),
 Dd 31 (.mv (.tmp 11)),
 Dd 32 (.bin .leq (.tmp 30) (.tmp 31)),
 Dd 33 (.mv (.tmp 32)),
 ⟨some 34, .mv (.tmp 0), (some (33, true)), []⟩,
 ⟨some 35, .mv (.tmp 10), (some (33, true)), []⟩,
 ⟨some 36, .idxs 1 (.tmp 34) (.tmp 35), (some (33, true)), []⟩,
 ⟨some 37, .load 1 false (.tmp 36), (some (33, true)), []⟩,
 ⟨some 38, .mv (.tmp 0), (some (33, true)), []⟩,
 ⟨some 39, .mv (.tmp 1), (some (33, true)), []⟩,
 ⟨some 40, .idxs 1 (.tmp 38) (.tmp 39), (some (33, true)), []⟩,
 ⟨some 41, .load 1 false (.tmp 40), (some (33, true)), []⟩,
 ⟨some 42, .call I.cmp_Less_int [.tmp 37, .tmp 41], (some (33, true)), []⟩,
 Dd 43 (.pick (.tmp 33) (.tmp 42) (.const (.bool false)))]
def F.slices_partitionOrdered_int.r4 : List DOp := [
 Dd 44 (.mv (.tmp 10)),
 Dd 45 (.bin .add (.tmp 44) (.const (.int .i64 1))),
 Dd 10 (.mv (.tmp 45))]
def F.slices_partitionOrdered_int.L0 : ACode := .seq (.seq (.draw F.slices_partitionOrdered_int.r3 []) (.cond (.tmp 43) (.skip) (.exit 0))) (.block 1 (.region F.slices_partitionOrdered_int.r4))
def F.slices_partitionOrdered_int.r5 : List DOp := [
 Dd 46 (.mv (.tmp 10)),
 Dd 47 (.mv (.tmp 11)),
 Dd 48 (.bin .leq (.tmp 46) (.tmp 47)),
 Dd 49 (.mv (.tmp 48)),
 ⟨some 50, .mv (.tmp 0), (some (49, true)), []⟩,
 ⟨some 51, .mv (.tmp 11), (some (49, true)), []⟩,
 ⟨some 52, .idxs 1 (.tmp 50) (.tmp 51), (some (49, true)), []⟩,
 ⟨some 53, .load 1 false (.tmp 52), (some (49, true)), []⟩,
 ⟨some 54, .mv (.tmp 0), (some (49, true)), []⟩,
 ⟨some 55, .mv (.tmp 1), (some (49, true)), []⟩,
 ⟨some 56, .idxs 1 (.tmp 54) (.tmp 55), (some (49, true)), []⟩,
 ⟨some 57, .load 1 false (.tmp 56), (some (49, true)), []⟩,
 ⟨some 58, .call I.cmp_Less_int [.tmp 53, .tmp 57], (some (49, true)), []⟩,
 ⟨some 59, .un .not (.tmp 58), (some (49, true)), []⟩,
 Dd 60 (.pick (.tmp 49) (.tmp 59) (.const (.bool false)))]
def F.slices_partitionOrdered_int.r6 : List DOp := [
 Dd 61 (.mv (.tmp 11)),
 Dd 62 (.bin .sub (.tmp 61) (.const (.int .i64 1))),
 Dd 11 (.mv (.tmp 62))]
def F.slices_partitionOrdered_int.L1 : ACode := .seq (.seq (.draw F.slices_partitionOrdered_int.r5 []) (.cond (.tmp 60) (.skip) (.exit 2))) (.block 3 (.region F.slices_partitionOrdered_int.r6))
def F.slices_partitionOrdered_int.r7 : List DOp := [
 Dd 63 (.mv (.tmp 10)),
 Dd 64 (.mv (.tmp 11)),
 Dd 65 (.bin .gtr (.tmp 63) (.tmp 64))]
def F.slices_partitionOrdered_int.r8 : List DOp := [
 Dd 66 (.mv (.tmp 0)),
 Dd 67 (.mv (.tmp 11)),
 Dd 68 (.mv (.tmp 0)),
 Dd 69 (.mv (.tmp 1)),
 Dd 70 (.mv (.tmp 0)),
 Dd 71 (.mv (.tmp 1)),
 Dd 72 (.idxs 1 (.tmp 70) (.tmp 71)),
 Dd 73 (.load 1 false (.tmp 72)),
 Dd 74 (.mv (.tmp 0)),
 Dd 75 (.mv (.tmp 11)),
 Dd 76 (.idxs 1 (.tmp 74) (.tmp 75)),
 Dd 77 (.load 1 false (.tmp 76)),
 Dd 78 (.idxs 1 (.tmp 66) (.tmp 67)),
 De (.store 1 (.tmp 78) (.tmp 73)),
 Dd 79 (.idxs 1 (.tmp 68) (.tmp 69)),
 De (.store 1 (.tmp 79) (.tmp 77))]
def F.slices_partitionOrdered_int.r9 : List DOp := [
 Dd 80 (.mv (.tmp 11)),
 Dd 8 (.mv (.tmp 80)),
 Dd 9 (.mv (.const (.bool true)))]
def F.slices_partitionOrdered_int.r10 : List DOp := [
 Dd 81 (.mv (.tmp 0)),
 Dd 82 (.mv (.tmp 10)),
 Dd 83 (.mv (.tmp 0)),
 Dd 84 (.mv (.tmp 11)),
 Dd 85 (.mv (.tmp 0)),
 Dd 86 (.mv (.tmp 11)),
 Dd 87 (.idxs 1 (.tmp 85) (.tmp 86)),
 Dd 88 (.load 1 false (.tmp 87)),
 Dd 89 (.mv (.tmp 0)),
 Dd 90 (.mv (.tmp 10)),
 Dd 91 (.idxs 1 (.tmp 89) (.tmp 90)),
 Dd 92 (.load 1 false (.tmp 91)),
 Dd 93 (.idxs 1 (.tmp 81) (.tmp 82)),
 De (.store 1 (.tmp 93) (.tmp 88)),
 Dd 94 (.idxs 1 (.tmp 83) (.tmp 84)),
 De (.store 1 (.tmp 94) (.tmp 92))]
def F.slices_partitionOrdered_int.r11 : List DOp := [
 Dd 95 (.mv (.tmp 10)),
 Dd 96 (.bin .add (.tmp 95) (.const (.int .i64 1))),
 Dd 10 (.mv (.tmp 96))]
def F.slices_partitionOrdered_int.r12 : List DOp := [
 Dd 97 (.mv (.tmp 11)),
 Dd 98 (.bin .sub (.tmp 97) (.const (.int .i64 1))),
 Dd 11 (.mv (.tmp 98))]
def F.slices_partitionOrdered_int.r13 : List DOp := [
 Dd 99 (.mv (.tmp 10)),
 Dd 100 (.mv (.tmp 11)),
 Dd 101 (.bin .leq (.tmp 99) (.tmp 100)),
 Dd 102 (.mv (.tmp 101)),
 ⟨some 103, .mv (.tmp 0), (some (102, true)), []⟩,
 ⟨some 104, .mv (.tmp 10), (some (102, true)), []⟩,
 ⟨some 105, .idxs 1 (.tmp 103) (.tmp 104), (some (102, true)), []⟩,
 ⟨some 106, .load 1 false (.tmp 105), (some (102, true)), []⟩,
 ⟨some 107, .mv (.tmp 0), (some (102, true)), []⟩,
 ⟨some 108, .mv (.tmp 1), (some (102, true)), []⟩,
 ⟨some 109, .idxs 1 (.tmp 107) (.tmp 108), (some (102, true)), []⟩,
 ⟨some 110, .load 1 false (.tmp 109), (some (102, true)), []⟩,
 ⟨some 111, .call I.cmp_Less_int [.tmp 106, .tmp 110], (some (102, true)), []⟩,
 Dd 112 (.pick (.tmp 102) (.tmp 111) (.const (.bool false)))]
def F.slices_partitionOrdered_int.r14 : List DOp := [
 Dd 113 (.mv (.tmp 10)),
 Dd 114 (.bin .add (.tmp 113) (.const (.int .i64 1))),
 Dd 10 (.mv (.tmp 114))]
def F.slices_partitionOrdered_int.L3 : ACode := .seq (.seq (.draw F.slices_partitionOrdered_int.r13 []) (.cond (.tmp 112) (.skip) (.exit 6))) (.block 7 (.region F.slices_partitionOrdered_int.r14))
def F.slices_partitionOrdered_int.r15 : List DOp := [
 Dd 115 (.mv (.tmp 10)),
 Dd 116 (.mv (.tmp 11)),
 Dd 117 (.bin .leq (.tmp 115) (.tmp 116)),
 Dd 118 (.mv (.tmp 117)),
 ⟨some 119, .mv (.tmp 0), (some (118, true)), []⟩,
 ⟨some 120, .mv (.tmp 11), (some (118, true)), []⟩,
 ⟨some 121, .idxs 1 (.tmp 119) (.tmp 120), (some (118, true)), []⟩,
 ⟨some 122, .load 1 false (.tmp 121), (some (118, true)), []⟩,
 ⟨some 123, .mv (.tmp 0), (some (118, true)), []⟩,
 ⟨some 124, .mv (.tmp 1), (some (118, true)), []⟩,
 ⟨some 125, .idxs 1 (.tmp 123) (.tmp 124), (some (118, true)), []⟩,
 ⟨some 126, .load 1 false (.tmp 125), (some (118, true)), []⟩,
 ⟨some 127, .call I.cmp_Less_int [.tmp 122, .tmp 126], (some (118, true)), []⟩,
 ⟨some 128, .un .not (.tmp 127), (some (118, true)), []⟩,
 Dd 129 (.pick (.tmp 118) (.tmp 128) (.const (.bool false)))]
def F.slices_partitionOrdered_int.r16 : List DOp := [
 Dd 130 (.mv (.tmp 11)),
 Dd 131 (.bin .sub (.tmp 130) (.const (.int .i64 1))),
 Dd 11 (.mv (.tmp 131))]
def F.slices_partitionOrdered_int.L4 : ACode := .seq (.seq (.draw F.slices_partitionOrdered_int.r15 []) (.cond (.tmp 129) (.skip) (.exit 8))) (.block 9 (.region F.slices_partitionOrdered_int.r16))
def F.slices_partitionOrdered_int.r17 : List DOp := [
 Dd 132 (.mv (.tmp 10)),
 Dd 133 (.mv (.tmp 11)),
 Dd 134 (.bin .gtr (.tmp 132) (.tmp 133))]
def F.slices_partitionOrdered_int.r18 : List DOp := [
 Dd 135 (.mv (.tmp 0)),
 Dd 136 (.mv (.tmp 10)),
 Dd 137 (.mv (.tmp 0)),
 Dd 138 (.mv (.tmp 11)),
 Dd 139 (.mv (.tmp 0)),
 Dd 140 (.mv (.tmp 11)),
 Dd 141 (.idxs 1 (.tmp 139) (.tmp 140)),
 Dd 142 (.load 1 false (.tmp 141)),
 Dd 143 (.mv (.tmp 0)),
 Dd 144 (.mv (.tmp 10)),
 Dd 145 (.idxs 1 (.tmp 143) (.tmp 144)),
 Dd 146 (.load 1 false (.tmp 145)),
 Dd 147 (.idxs 1 (.tmp 135) (.tmp 136)),
 De (.store 1 (.tmp 147) (.tmp 142)),
 Dd 148 (.idxs 1 (.tmp 137) (.tmp 138)),
 De (.store 1 (.tmp 148) (.tmp 146))]
def F.slices_partitionOrdered_int.r19 : List DOp := [
 Dd 149 (.mv (.tmp 10)),
 Dd 150 (.bin .add (.tmp 149) (.const (.int .i64 1))),
 Dd 10 (.mv (.tmp 150))]
def F.slices_partitionOrdered_int.r20 : List DOp := [
 Dd 151 (.mv (.tmp 11)),
 Dd 152 (.bin .sub (.tmp 151) (.const (.int .i64 1))),
 Dd 11 (.mv (.tmp 152))]
def F.slices_partitionOrdered_int.L2 : ACode := .block 5 (.seq (.block 6 (.loop F.slices_partitionOrdered_int.L3)) (.seq (.block 8 (.loop F.slices_partitionOrdered_int.L4)) (.seq (.seq (.region F.slices_partitionOrdered_int.r17) (.cond (.tmp 134) (.exit 4) (.skip))) (.seq (.draw F.slices_partitionOrdered_int.r18 []) (.seq (.region F.slices_partitionOrdered_int.r19) (.region F.slices_partitionOrdered_int.r20))))))
def F.slices_partitionOrdered_int.r21 : List DOp := [
 Dd 153 (.mv (.tmp 0)),
 Dd 154 (.mv (.tmp 11)),
 Dd 155 (.mv (.tmp 0)),
 Dd 156 (.mv (.tmp 1)),
 Dd 157 (.mv (.tmp 0)),
 Dd 158 (.mv (.tmp 1)),
 Dd 159 (.idxs 1 (.tmp 157) (.tmp 158)),
 Dd 160 (.load 1 false (.tmp 159)),
 Dd 161 (.mv (.tmp 0)),
 Dd 162 (.mv (.tmp 11)),
 Dd 163 (.idxs 1 (.tmp 161) (.tmp 162)),
 Dd 164 (.load 1 false (.tmp 163)),
 Dd 165 (.idxs 1 (.tmp 153) (.tmp 154)),
 De (.store 1 (.tmp 165) (.tmp 160)),
 Dd 166 (.idxs 1 (.tmp 155) (.tmp 156)),
 De (.store 1 (.tmp 166) (.tmp 164))]
def F.slices_partitionOrdered_int.r22 : List DOp := [
 Dd 167 (.mv (.tmp 11)),
 Dd 8 (.mv (.tmp 167)),
 Dd 9 (.mv (.const (.bool false)))]
def F.slices_partitionOrdered_int.c : ACode := .seq (.region F.slices_partitionOrdered_int.r0) (.seq (.draw F.slices_partitionOrdered_int.r1 []) (.seq (.region F.slices_partitionOrdered_int.r2) (.seq (.block 0 (.loop F.slices_partitionOrdered_int.L0)) (.seq (.block 2 (.loop F.slices_partitionOrdered_int.L1)) (.seq (.seq (.region F.slices_partitionOrdered_int.r7) (.cond (.tmp 65) (.seq (.draw F.slices_partitionOrdered_int.r8 []) (.seq (.region F.slices_partitionOrdered_int.r9) (.ret))) (.skip))) (.seq (.draw F.slices_partitionOrdered_int.r10 []) (.seq (.region F.slices_partitionOrdered_int.r11) (.seq (.region F.slices_partitionOrdered_int.r12) (.seq (.block 4 (.loop F.slices_partitionOrdered_int.L2)) (.seq (.draw F.slices_partitionOrdered_int.r21 []) (.seq (.region F.slices_partitionOrdered_int.r22) (.ret))))))))))))
def F.slices_partitionOrdered_int : AFunc := ⟨F.slices_partitionOrdered_int.c, [.tmp 8, .tmp 9]⟩
/-! slices.siftDownOrdered[int] -/
def F.slices_siftDownOrdered_int.r0 : List DOp := [
 Dd 10 (.mv (.tmp 1)),
 Dd 8 (.mv (.tmp 10))]
def F.slices_siftDownOrdered_int.r1 : List DOp := [
 Dd 11 (.mv (.tmp 8)),
 Dd 12 (.bin .mul (.const (.int .i64 2)) (.tmp 11)),
 Dd 13 (.bin .add (.tmp 12) (.const (.int .i64 1))),
 Dd 9 (.mv (.tmp 13))]
def F.slices_siftDownOrdered_int.r2 : List DOp := [
 Dd 14 (.mv (.tmp 9)),
 Dd 15 (.mv (.tmp 2)),
 Dd 16 (.bin .geq (.tmp 14) (.tmp 15))]
def F.slices_siftDownOrdered_int.r3 : List DOp := [
 Dd 17 (.mv (.tmp 9)),
 Dd 18 (.bin .add (.tmp 17) (.const (.int .i64 1))),
 Dd 19 (.mv (.tmp 2)),
 Dd 20 (.bin .lss (.tmp 18) (.tmp 19)),
 Dd 21 (.mv (.tmp 20)),
 ⟨some 22, .mv (.tmp 0), (some (21, true)), []⟩,
 ⟨some 23, .mv (.tmp 3), (some (21, true)), []⟩,
 ⟨some 24, .mv (.tmp 9), (some (21, true)), []⟩,
 ⟨some 25, .bin .add (.tmp 23) (.tmp 24), (some (21, true)), []⟩,
 ⟨some 26, .idxs 1 (.tmp 22) (.tmp 25), (some (21, true)), []⟩,
 ⟨some 27, .load 1 false (.tmp 26), (some (21, true)), []⟩,
 ⟨some 28, .mv (.tmp 0), (some (21, true)), []⟩,
 ⟨some 29, .mv (.tmp 3), (some (21, true)), []⟩,
 ⟨some 30, .mv (.tmp 9), (some (21, true)), []⟩,
 ⟨some 31, .bin .add (.tmp 29) (.tmp 30), (some (21, true)), []⟩,
 ⟨some 32, .bin .add (.tmp 31) (.const (.int .i64 1)), (some (21, true)), []⟩,
 ⟨some 33, .idxs 1 (.tmp 28) (.tmp 32), (some (21, true)), []⟩,
 ⟨some 34, .load 1 false (.tmp 33), (some (21, true)), []⟩,
 ⟨some 35, .call I.cmp_Less_int [.tmp 27, .tmp 34], (some (21, true)), []⟩,
 Dd 36 (.pick (.tmp 21) (.tmp 35) (.const (.bool false)))]
def F.slices_siftDownOrdered_int.r4 : List DOp := [
 Dd 37 (.mv (.tmp 9)),
 Dd 38 (.bin .add (.tmp 37) (.const (.int .i64 1))),
 Dd 9 (.mv (.tmp 38))]
def F.slices_siftDownOrdered_int.r5 : List DOp := [
 Dd 39 (.mv (.tmp 0)),
 Dd 40 (.mv (.tmp 3)),
 Dd 41 (.mv (.tmp 8)),
 Dd 42 (.bin .add (.tmp 40) (.tmp 41)),
 Dd 43 (.idxs 1 (.tmp 39) (.tmp 42)),
 Dd 44 (.load 1 false (.tmp 43)),
 Dd 45 (.mv (.tmp 0)),
 Dd 46 (.mv (.tmp 3)),
 Dd 47 (.mv (.tmp 9)),
 Dd 48 (.bin .add (.tmp 46) (.tmp 47)),
 Dd 49 (.idxs 1 (.tmp 45) (.tmp 48)),
 Dd 50 (.load 1 false (.tmp 49)),
 Dd 51 (.call I.cmp_Less_int [.tmp 44, .tmp 50]),
 Dd 52 (.un .not (.tmp 51))]
def F.slices_siftDownOrdered_int.r6 : List DOp := [
 Dd 53 (.mv (.tmp 0)),
 Dd 54 (.mv (.tmp 3)),
 Dd 55 (.mv (.tmp 8)),
 Dd 56 (.bin .add (.tmp 54) (.tmp 55)),
 Dd 57 (.mv (.tmp 0)),
 Dd 58 (.mv (.tmp 3)),
 Dd 59 (.mv (.tmp 9)),
 Dd 60 (.bin .add (.tmp 58) (.tmp 59)),
 Dd 61 (.mv (.tmp 0)),
 Dd 62 (.mv (.tmp 3)),
 Dd 63 (.mv (.tmp 9)),
 Dd 64 (.bin .add (.tmp 62) (.tmp 63)),
 Dd 65 (.idxs 1 (.tmp 61) (.tmp 64)),
 Dd 66 (.load 1 false (.tmp 65)),
 Dd 67 (.mv (.tmp 0)),
 Dd 68 (.mv (.tmp 3)),
 Dd 69 (.mv (.tmp 8)),
 Dd 70 (.bin .add (.tmp 68) (.tmp 69)),
 Dd 71 (.idxs 1 (.tmp 67) (.tmp 70)),
 Dd 72 (.load 1 false (.tmp 71)),
 Dd 73 (.idxs 1 (.tmp 53) (.tmp 56)),
 De (.store 1 (.tmp 73) (.tmp 66)),
 Dd 74 (.idxs 1 (.tmp 57) (.tmp 60)),
 De (.store 1 (.tmp 74) (.tmp 72))]
def F.slices_siftDownOrdered_int.r7 : List DOp := [
 Dd 75 (.mv (.tmp 9)),
 Dd 8 (.mv (.tmp 75))]
def F.slices_siftDownOrdered_int.L0 : ACode := .block 1 (.seq (.region F.slices_siftDownOrdered_int.r1) (.seq (.seq (.region F.slices_siftDownOrdered_int.r2) (.cond (.tmp 16) (.exit 0) (.skip))) (.seq (.seq (.draw F.slices_siftDownOrdered_int.r3 []) (.cond (.tmp 36) (.region F.slices_siftDownOrdered_int.r4) (.skip))) (.seq (.seq (.draw F.slices_siftDownOrdered_int.r5 []) (.cond (.tmp 52) (.ret) (.skip))) (.seq (.draw F.slices_siftDownOrdered_int.r6 []) (.region F.slices_siftDownOrdered_int.r7))))))
def F.slices_siftDownOrdered_int.c : ACode := .seq (.region F.slices_siftDownOrdered_int.r0) (.block 0 (.loop F.slices_siftDownOrdered_int.L0))
def F.slices_siftDownOrdered_int : AFunc := ⟨F.slices_siftDownOrdered_int.c, []⟩
/-! slices.nextPowerOfTwo -/
def F.slices_nextPowerOfTwo.r0 : List DOp := [
 Dd 2 (.mv (.const (.int .u64 0)))]
def F.slices_nextPowerOfTwo.r1 : List DOp := [
 Dd 3 (.mv (.tmp 0)),
 Dd 4 (.conv .u64 (.tmp 3)),
 Dd 5 (.call I.math_bits_Len [.tmp 4]),
 Dd 6 (.bin .shl (.const (.int .u64 1)) (.tmp 5)),
 Dd 2 (.mv (.tmp 6))]
def F.slices_nextPowerOfTwo.c : ACode := .seq (.region F.slices_nextPowerOfTwo.r0) (.seq (.region F.slices_nextPowerOfTwo.r1) (.ret))
def F.slices_nextPowerOfTwo : AFunc := ⟨F.slices_nextPowerOfTwo.c, [.tmp 2]⟩
/-! (*slices.xorshift).Next -/
def F.slices_xorshift_Next.r0 : List DOp := [
 Dd 2 (.mv (.const (.int .u64 0)))]
def F.slices_xorshift_Next.r1 : List DOp := [
 Dd 3 (.mv (.tmp 0)),
 Dd 4 (.nilchk (.tmp 3)),
 Dd 5 (.load 1 false (.tmp 4)),
 Dd 6 (.mv (.tmp 0)),
 Dd 7 (.nilchk (.tmp 6)),
 Dd 8 (.load 1 false (.tmp 7)),
 Dd 9 (.bin .shl (.tmp 8) (.const (.int .u64 13))),
 Dd 10 (.bin .xor (.tmp 5) (.tmp 9)),
 Dd 11 (.nilchk (.tmp 3)),
 De (.store 1 (.tmp 11) (.tmp 10))]
def F.slices_xorshift_Next.r2 : List DOp := [
 Dd 12 (.mv (.tmp 0)),
 Dd 13 (.nilchk (.tmp 12)),
 Dd 14 (.load 1 false (.tmp 13)),
 Dd 15 (.mv (.tmp 0)),
 Dd 16 (.nilchk (.tmp 15)),
 Dd 17 (.load 1 false (.tmp 16)),
 Dd 18 (.bin .shr (.tmp 17) (.const (.int .u64 7))),
 Dd 19 (.bin .xor (.tmp 14) (.tmp 18)),
 Dd 20 (.nilchk (.tmp 12)),
 De (.store 1 (.tmp 20) (.tmp 19))]
def F.slices_xorshift_Next.r3 : List DOp := [
 Dd 21 (.mv (.tmp 0)),
 Dd 22 (.nilchk (.tmp 21)),
 Dd 23 (.load 1 false (.tmp 22)),
 Dd 24 (.mv (.tmp 0)),
 Dd 25 (.nilchk (.tmp 24)),
 Dd 26 (.load 1 false (.tmp 25)),
 Dd 27 (.bin .shl (.tmp 26) (.const (.int .u64 17))),
 Dd 28 (.bin .xor (.tmp 23) (.tmp 27)),
 Dd 29 (.nilchk (.tmp 21)),
 De (.store 1 (.tmp 29) (.tmp 28))]
def F.slices_xorshift_Next.r4 : List DOp := [
 Dd 30 (.mv (.tmp 0)),
 Dd 31 (.nilchk (.tmp 30)),
 Dd 32 (.load 1 false (.tmp 31)),
 Dd 2 (.mv (.tmp 32))]
def F.slices_xorshift_Next.c : ACode := .seq (.region F.slices_xorshift_Next.r0) (.seq (.draw F.slices_xorshift_Next.r1 []) (.seq (.draw F.slices_xorshift_Next.r2 []) (.seq (.draw F.slices_xorshift_Next.r3 []) (.seq (.region F.slices_xorshift_Next.r4) (.ret)))))
def F.slices_xorshift_Next : AFunc := ⟨F.slices_xorshift_Next.c, [.tmp 2]⟩
/-! slices.medianAdjacentOrdered[int] -/
def F.slices_medianAdjacentOrdered_int.r0 : List DOp := [
 Dd 6 (.mv (.const (.int .i64 0)))]
def F.slices_medianAdjacentOrdered_int.r1 : List DOp := [
 Dd 7 (.mv (.tmp 0)),
 Dd 8 (.mv (.tmp 1)),
 Dd 9 (.bin .sub (.tmp 8) (.const (.int .i64 1))),
 Dd 10 (.mv (.tmp 1)),
 Dd 11 (.mv (.tmp 1)),
 Dd 12 (.bin .add (.tmp 11) (.const (.int .i64 1))),
 Dd 13 (.mv (.tmp 2)),
 Dd 14 (.call I.slices_medianOrdered_int [.tmp 7, .tmp 9, .tmp 10, .tmp 12, .tmp 13]),
 Dd 6 (.mv (.tmp 14))]
def F.slices_medianAdjacentOrdered_int.c : ACode := .seq (.region F.slices_medianAdjacentOrdered_int.r0) (.seq (.region F.slices_medianAdjacentOrdered_int.r1) (.ret))
def F.slices_medianAdjacentOrdered_int : AFunc := ⟨F.slices_medianAdjacentOrdered_int.c, [.tmp 6]⟩
/-! slices.medianOrdered[int] -/
def F.slices_medianOrdered_int.r0 : List DOp := [
 Dd 10 (.mv (.const (.int .i64 0)))]
def F.slices_medianOrdered_int.r1 : List DOp := [
 Dd 12 (.mv (.tmp 0)),
 Dd 13 (.mv (.tmp 1)),
 Dd 14 (.mv (.tmp 2)),
 Dd 15 (.mv (.tmp 4)),
 Dd 16 (.call I.slices_order2Ordered_int [.tmp 12, .tmp 13, .tmp 14, .tmp 15]),
 Dd 11 (.mv (.tmp 16)),
 Dd 17 (.extract (.tmp 11) 0),
 Dd 18 (.extract (.tmp 11) 1),
 Dd 1 (.mv (.tmp 17)),
 Dd 2 (.mv (.tmp 18))]
def F.slices_medianOrdered_int.r2 : List DOp := [
 Dd 20 (.mv (.tmp 0)),
 Dd 21 (.mv (.tmp 2)),
 Dd 22 (.mv (.tmp 3)),
 Dd 23 (.mv (.tmp 4)),
 Dd 24 (.call I.slices_order2Ordered_int [.tmp 20, .tmp 21, .tmp 22, .tmp 23]),
 Dd 19 (.mv (.tmp 24)),
 Dd 25 (.extract (.tmp 19) 0),
 Dd 26 (.extract (.tmp 19) 1),
 Dd 2 (.mv (.tmp 25)),
 Dd 3 (.mv (.tmp 26))]
def F.slices_medianOrdered_int.r3 : List DOp := [
 Dd 28 (.mv (.tmp 0)),
 Dd 29 (.mv (.tmp 1)),
 Dd 30 (.mv (.tmp 2)),
 Dd 31 (.mv (.tmp 4)),
 Dd 32 (.call I.slices_order2Ordered_int [.tmp 28, .tmp 29, .tmp 30, .tmp 31]),
 Dd 27 (.mv (.tmp 32)),
 Dd 33 (.extract (.tmp 27) 0),
 Dd 34 (.extract (.tmp 27) 1),
 Dd 1 (.mv (.tmp 33)),
 Dd 2 (.mv (.tmp 34))]
def F.slices_medianOrdered_int.r4 : List DOp := [
 Dd 35 (.mv (.tmp 2)),
 Dd 10 (.mv (.tmp 35))]
def F.slices_medianOrdered_int.c : ACode := .seq (.region F.slices_medianOrdered_int.r0) (.seq (.region F.slices_medianOrdered_int.r1) (.seq (.region F.slices_medianOrdered_int.r2) (.seq (.region F.slices_medianOrdered_int.r3) (.seq (.region F.slices_medianOrdered_int.r4) (.ret)))))
def F.slices_medianOrdered_int : AFunc := ⟨F.slices_medianOrdered_int.c, [.tmp 10]⟩
/-! slices.order2Ordered[int] -/
def F.slices_order2Ordered_int.r0 : List DOp := [
 Dd 8 (.mv (.const (.int .i64 0))),
 Dd 9 (.mv (.const (.int .i64 0)))]
def F.slices_order2Ordered_int.r1 : List DOp := [
 Dd 10 (.mv (.tmp 0)),
 Dd 11 (.mv (.tmp 2)),
 Dd 12 (.idxs 1 (.tmp 10) (.tmp 11)),
 Dd 13 (.load 1 false (.tmp 12)),
 Dd 14 (.mv (.tmp 0)),
 Dd 15 (.mv (.tmp 1)),
 Dd 16 (.idxs 1 (.tmp 14) (.tmp 15)),
 Dd 17 (.load 1 false (.tmp 16)),
 Dd 18 (.call I.cmp_Less_int [.tmp 13, .tmp 17])]
def F.slices_order2Ordered_int.r2 : List DOp := [
 Dd 19 (.mv (.tmp 3)),
 Dd 20 (.nilchk (.tmp 19)),
 Dd 21 (.load 1 false (.tmp 20)),
 Dd 22 (.bin .add (.tmp 21) (.const (.int .i64 1))),
 Dd 23 (.nilchk (.tmp 19)),
 De (.store 1 (.tmp 23) (.tmp 22))]
def F.slices_order2Ordered_int.r3 : List DOp := [
 Dd 24 (.mv (.tmp 2)),
 Dd 25 (.mv (.tmp 1)),
 Dd 8 (.mv (.tmp 24)),
 Dd 9 (.mv (.tmp 25))]
def F.slices_order2Ordered_int.r4 : List DOp := [
 Dd 26 (.mv (.tmp 1)),
 Dd 27 (.mv (.tmp 2)),
 Dd 8 (.mv (.tmp 26)),
 Dd 9 (.mv (.tmp 27))]
def F.slices_order2Ordered_int.c : ACode := .seq (.region F.slices_order2Ordered_int.r0) (.seq (.seq (.draw F.slices_order2Ordered_int.r1 []) (.cond (.tmp 18) (.seq (.region F.slices_order2Ordered_int.r2) (.seq (.region F.slices_order2Ordered_int.r3) (.ret))) (.skip))) (.seq (.region F.slices_order2Ordered_int.r4) (.ret)))
def F.slices_order2Ordered_int : AFunc := ⟨F.slices_order2Ordered_int.c, [.tmp 8, .tmp 9]⟩
end Go.Proofs.Ytbehlbabgomhfaa
