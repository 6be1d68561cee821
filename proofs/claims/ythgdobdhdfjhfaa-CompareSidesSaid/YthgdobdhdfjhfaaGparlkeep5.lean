/- The abstract code of package parlkeep5, written by wip/tools/gen.py from the translation. -/
import Derived.Test.YthgdobdhdfjhfaaI
namespace Go.Proofs.Ythgdobdhdfjhfaa
open Go Go.Ab
/-! parlance/parlkeep5.CompareSides -/
def F.parlkeep5_CompareSides.r0 : List DOp := [
 Dd 6 (.mv (.const (.bool false)))]
def F.parlkeep5_CompareSides.r1 : List DOp := [
 Dd 26 (.mv (.tmp 0)),
 Dd 27 (.call I.parlmake_Grammar [.tmp 26]),
 Dd 28 (.mv (.tmp 1)),
 Dd 29 (.call I.parlmake_Grammar [.tmp 28]),
 Dd 7 (.alloc [.int .i64 0, .int .i64 0, .int .i64 0, .slice none 0 0]),
 Dd 8 (.alloc [.int .i64 0, .int .i64 0, .int .i64 0, .slice none 0 0]),
 De (.store 4 (.tmp 7) (.tmp 27)),
 De (.store 4 (.tmp 8) (.tmp 29))]
def F.parlkeep5_CompareSides.r2 : List DOp := [
 Dd 30 (.faddr 0 (.tmp 7)),
 Dd 31 (.load 1 false (.tmp 30)),
 Dd 32 (.faddr 0 (.tmp 8)),
 De (.store 1 (.tmp 32) (.tmp 31))]
def F.parlkeep5_CompareSides.r3 : List DOp := [
 Dd 33 (.faddr 3 (.tmp 8)),
 Dd 34 (.load 1 false (.tmp 33)),
 Dd 35 (.len (.tmp 34)),
 Dd 36 (.mv (.const (.int .i64 0)))]
def F.parlkeep5_CompareSides.r4 : List DOp := [
 Dd 37 (.bin .lss (.tmp 36) (.tmp 35))]
def F.parlkeep5_CompareSides.r5 : List DOp := [
 Dd 38 (.idxs 2 (.tmp 34) (.tmp 36)),
 Dd 39 (.load 2 true (.tmp 38)),
 Dd 10 (.alloc [.int .i64 0, .slice none 0 0]),
 De (.store 2 (.tmp 10) (.tmp 39))]
def F.parlkeep5_CompareSides.r6 : List DOp := [
 Dd 40 (.faddr 1 (.tmp 10)),
 Dd 41 (.load 1 false (.tmp 40)),
 Dd 42 (.len (.tmp 41)),
 Dd 43 (.mv (.const (.int .i64 0)))]
def F.parlkeep5_CompareSides.r7 : List DOp := [
 Dd 44 (.bin .lss (.tmp 43) (.tmp 42))]
def F.parlkeep5_CompareSides.r8 : List DOp := [
 Dd 45 (.mv (.tmp 43)),
 Dd 46 (.idxs 2 (.tmp 41) (.tmp 43)),
 Dd 47 (.load 2 true (.tmp 46)),
 Dd 12 (.alloc [.bool false, .int .i64 0]),
 Dd 11 (.mv (.tmp 45)),
 De (.store 2 (.tmp 12) (.tmp 47))]
def F.parlkeep5_CompareSides.r9 : List DOp := [
 Dd 48 (.faddr 0 (.tmp 12)),
 Dd 49 (.load 1 false (.tmp 48))]
def F.parlkeep5_CompareSides.r10 : List DOp := [
 Dd 50 (.faddr 1 (.tmp 10)),
 Dd 51 (.load 1 false (.tmp 50)),
 Dd 52 (.mv (.tmp 11)),
 Dd 53 (.faddr 1 (.tmp 12)),
 Dd 54 (.load 1 false (.tmp 53)),
 Dd 55 (.faddr 0 (.tmp 7)),
 Dd 56 (.load 1 false (.tmp 55)),
 Dd 57 (.bin .rem (.tmp 54) (.tmp 56)),
 Dd 58 (.idxs 2 (.tmp 51) (.tmp 52)),
 Dd 59 (.faddr 1 (.tmp 58)),
 De (.store 1 (.tmp 59) (.tmp 57))]
def F.parlkeep5_CompareSides.r11 : List DOp := [
 Dd 60 (.bin .add (.tmp 43) (.const (.int .i64 1))),
 Dd 43 (.mv (.tmp 60))]
def F.parlkeep5_CompareSides.L1 : ACode := .seq (.region F.parlkeep5_CompareSides.r7) (.seq (.cond (.tmp 44) (.skip) (.exit 2)) (.seq (.block 3 (.seq (.region F.parlkeep5_CompareSides.r8) (.seq (.region F.parlkeep5_CompareSides.r9) (.cond (.tmp 49) (.draw F.parlkeep5_CompareSides.r10 []) (.skip))))) (.region F.parlkeep5_CompareSides.r11)))
def F.parlkeep5_CompareSides.r12 : List DOp := [
 Dd 61 (.bin .add (.tmp 36) (.const (.int .i64 1))),
 Dd 36 (.mv (.tmp 61))]
def F.parlkeep5_CompareSides.L0 : ACode := .seq (.region F.parlkeep5_CompareSides.r4) (.seq (.cond (.tmp 37) (.skip) (.exit 0)) (.seq (.block 1 (.seq (.region F.parlkeep5_CompareSides.r5) (.seq (.region F.parlkeep5_CompareSides.r6) (.block 2 (.loop F.parlkeep5_CompareSides.L1))))) (.region F.parlkeep5_CompareSides.r12)))
def F.parlkeep5_CompareSides.r13 : List DOp := [
 Dd 62 (.faddr 3 (.tmp 8)),
 Dd 63 (.load 1 false (.tmp 62)),
 Dd 64 (.call I.parlkeep5_distinct [.tmp 63]),
 Dd 65 (.faddr 3 (.tmp 8)),
 De (.store 1 (.tmp 65) (.tmp 64))]
def F.parlkeep5_CompareSides.r14 : List DOp := [
 Dd 67 (.call I.parlkeep5_plain []),
 Dd 68 (.build [.int .i64 0, .int .i64 0, .int .i64 0, .slice none 0 0] [(0, 1, .const (.int .i64 2)), (1, 1, .const (.int .i64 1))]),
 Dd 69 (.call I.compare_Least [.tmp 67, .tmp 68, .const (.int .i64 2)]),
 Dd 66 (.mv (.tmp 69)),
 Dd 70 (.extract (.tmp 66) 0),
 Dd 71 (.extract (.tmp 66) 1),
 Dd 72 (.extract (.tmp 66) 2),
 Dd 13 (.mv (.tmp 70)),
 Dd 14 (.mv (.tmp 71)),
 Dd 15 (.mv (.tmp 72))]
def F.parlkeep5_CompareSides.r15 : List DOp := [
 Dd 73 (.mv (.tmp 15)),
 Dd 74 (.bin .neq (.tmp 73) (.const (.int .i64 0))),
 Dd 75 (.mv (.tmp 74)),
 ⟨some 76, .mv (.tmp 14), (some (75, false)), []⟩,
 ⟨some 77, .bin .neq (.tmp 76) (.const (.int .i64 1)), (some (75, false)), []⟩,
 Dd 78 (.pick (.tmp 75) (.const (.bool true)) (.tmp 77)),
 Dd 79 (.mv (.tmp 78)),
 ⟨some 80, .mv (.tmp 13), (some (79, false)), []⟩,
 ⟨some 81, .bslice 1 1 [.int .i64 0] [(0, 1, .const (.int .i64 0))], (some (79, false)), []⟩,
 ⟨some 82, .call I.slices_Equal_int_int [.tmp 80, .tmp 81], (some (79, false)), []⟩,
 ⟨some 83, .un .not (.tmp 82), (some (79, false)), []⟩,
 Dd 84 (.pick (.tmp 79) (.const (.bool true)) (.tmp 83))]
def F.parlkeep5_CompareSides.r16 : List DOp := [
 Dd 6 (.mv (.const (.bool false)))]
def F.parlkeep5_CompareSides.r17 : List DOp := [
 Dd 85 (.mv (.tmp 2)),
 Dd 86 (.call I.parlkeep5_below [.tmp 85, .const (.int .i64 4)]),
 Dd 2 (.mv (.tmp 86))]
def F.parlkeep5_CompareSides.r18 : List DOp := [
 Dd 88 (.load 4 true (.tmp 7)),
 Dd 89 (.load 4 true (.tmp 8)),
 Dd 90 (.mv (.tmp 2)),
 Dd 91 (.call I.compare_Least [.tmp 88, .tmp 89, .tmp 90]),
 Dd 87 (.mv (.tmp 91)),
 Dd 92 (.extract (.tmp 87) 0),
 Dd 93 (.extract (.tmp 87) 1),
 Dd 94 (.extract (.tmp 87) 2),
 Dd 16 (.mv (.tmp 92)),
 Dd 17 (.mv (.tmp 93)),
 Dd 18 (.mv (.tmp 94))]
def F.parlkeep5_CompareSides.r19 : List DOp := [
 Dd 96 (.load 4 true (.tmp 8)),
 Dd 97 (.load 4 true (.tmp 7)),
 Dd 98 (.mv (.tmp 2)),
 Dd 99 (.call I.compare_Least [.tmp 96, .tmp 97, .tmp 98]),
 Dd 95 (.mv (.tmp 99)),
 Dd 100 (.extract (.tmp 95) 0),
 Dd 101 (.extract (.tmp 95) 1),
 Dd 102 (.extract (.tmp 95) 2),
 Dd 19 (.mv (.tmp 100)),
 Dd 20 (.mv (.tmp 101)),
 Dd 21 (.mv (.tmp 102))]
def F.parlkeep5_CompareSides.r20 : List DOp := [
 Dd 103 (.mv (.tmp 18)),
 Dd 104 (.mv (.tmp 21)),
 Dd 105 (.bin .neq (.tmp 103) (.tmp 104)),
 Dd 106 (.mv (.tmp 105)),
 ⟨some 107, .mv (.tmp 18), (some (106, false)), []⟩,
 ⟨some 108, .bin .neq (.tmp 107) (.const (.int .i64 0)), (some (106, false)), []⟩,
 ⟨some 109, .mv (.tmp 108), (some (106, false)), []⟩,
 ⟨some 110, .mv (.tmp 18), (some (109, true)), []⟩,
 ⟨some 111, .bin .neq (.tmp 110) (.const (.int .i64 5)), (some (109, true)), []⟩,
 ⟨some 112, .pick (.tmp 109) (.tmp 111) (.const (.bool false)), (some (106, false)), []⟩,
 Dd 113 (.pick (.tmp 106) (.const (.bool true)) (.tmp 112))]
def F.parlkeep5_CompareSides.r21 : List DOp := [
 Dd 6 (.mv (.const (.bool false)))]
def F.parlkeep5_CompareSides.r22 : List DOp := [
 Dd 114 (.mv (.tmp 18)),
 Dd 115 (.bin .eql (.tmp 114) (.const (.int .i64 5)))]
def F.parlkeep5_CompareSides.r23 : List DOp := [
 Dd 116 (.mv (.tmp 17)),
 Dd 117 (.bin .eql (.tmp 116) (.const (.int .i64 0))),
 Dd 118 (.mv (.tmp 117)),
 ⟨some 119, .mv (.tmp 20), (some (118, true)), []⟩,
 ⟨some 120, .bin .eql (.tmp 119) (.const (.int .i64 0)), (some (118, true)), []⟩,
 Dd 121 (.pick (.tmp 118) (.tmp 120) (.const (.bool false))),
 Dd 6 (.mv (.tmp 121))]
def F.parlkeep5_CompareSides.r24 : List DOp := [
 Dd 123 (.load 4 true (.tmp 7)),
 Dd 124 (.mv (.tmp 16)),
 Dd 125 (.call I.mean_Accepts [.tmp 123, .tmp 124]),
 Dd 122 (.mv (.tmp 125)),
 Dd 126 (.extract (.tmp 122) 0),
 Dd 127 (.extract (.tmp 122) 1),
 Dd 22 (.mv (.tmp 126)),
 Dd 23 (.mv (.tmp 127))]
def F.parlkeep5_CompareSides.r25 : List DOp := [
 Dd 129 (.load 4 true (.tmp 8)),
 Dd 130 (.mv (.tmp 16)),
 Dd 131 (.call I.mean_Accepts [.tmp 129, .tmp 130]),
 Dd 128 (.mv (.tmp 131)),
 Dd 132 (.extract (.tmp 128) 0),
 Dd 133 (.extract (.tmp 128) 1),
 Dd 24 (.mv (.tmp 132)),
 Dd 25 (.mv (.tmp 133))]
def F.parlkeep5_CompareSides.r26 : List DOp := [
 Dd 134 (.mv (.tmp 16)),
 Dd 135 (.mv (.tmp 19)),
 Dd 136 (.call I.slices_Equal_int_int [.tmp 134, .tmp 135]),
 Dd 137 (.mv (.tmp 136)),
 ⟨some 138, .mv (.tmp 17), (some (137, true)), []⟩,
 ⟨some 139, .mv (.tmp 20), (some (137, true)), []⟩,
 ⟨some 140, .bin .neq (.tmp 138) (.tmp 139), (some (137, true)), []⟩,
 Dd 141 (.pick (.tmp 137) (.tmp 140) (.const (.bool false))),
 Dd 142 (.mv (.tmp 141)),
 ⟨some 143, .mv (.tmp 22), (some (142, true)), []⟩,
 ⟨some 144, .mv (.tmp 24), (some (142, true)), []⟩,
 ⟨some 145, .eq true .bool (.tmp 143) (.tmp 144), (some (142, true)), []⟩,
 Dd 146 (.pick (.tmp 142) (.tmp 145) (.const (.bool false))),
 Dd 147 (.mv (.tmp 146)),
 ⟨some 148, .mv (.tmp 17), (some (147, true)), []⟩,
 ⟨some 149, .bin .eql (.tmp 148) (.const (.int .i64 1)), (some (147, true)), []⟩,
 ⟨some 150, .mv (.tmp 22), (some (147, true)), []⟩,
 ⟨some 151, .eq false .bool (.tmp 149) (.tmp 150), (some (147, true)), []⟩,
 Dd 152 (.pick (.tmp 147) (.tmp 151) (.const (.bool false))),
 Dd 6 (.mv (.tmp 152))]
def F.parlkeep5_CompareSides.c : ACode := .seq (.region F.parlkeep5_CompareSides.r0) (.seq (.region F.parlkeep5_CompareSides.r1) (.seq (.region F.parlkeep5_CompareSides.r2) (.seq (.seq (.region F.parlkeep5_CompareSides.r3) (.block 0 (.loop F.parlkeep5_CompareSides.L0))) (.seq (.region F.parlkeep5_CompareSides.r13) (.seq (.seq (.region F.parlkeep5_CompareSides.r14) (.seq (.region F.parlkeep5_CompareSides.r15) (.cond (.tmp 84) (.seq (.region F.parlkeep5_CompareSides.r16) (.ret)) (.skip)))) (.seq (.region F.parlkeep5_CompareSides.r17) (.seq (.region F.parlkeep5_CompareSides.r18) (.seq (.region F.parlkeep5_CompareSides.r19) (.seq (.seq (.region F.parlkeep5_CompareSides.r20) (.cond (.tmp 113) (.seq (.region F.parlkeep5_CompareSides.r21) (.ret)) (.skip))) (.seq (.seq (.region F.parlkeep5_CompareSides.r22) (.cond (.tmp 115) (.seq (.region F.parlkeep5_CompareSides.r23) (.ret)) (.skip))) (.seq (.region F.parlkeep5_CompareSides.r24) (.seq (.region F.parlkeep5_CompareSides.r25) (.seq (.region F.parlkeep5_CompareSides.r26) (.ret))))))))))))))
def F.parlkeep5_CompareSides : AFunc := ⟨F.parlkeep5_CompareSides.c, [.tmp 6]⟩
/-! parlance/parlkeep5.plain -/
def F.parlkeep5_plain.r0 : List DOp := [
 Dd 0 (.alloc [.int .i64 0, .int .i64 0, .int .i64 0, .slice none 0 0])]
def F.parlkeep5_plain.r1 : List DOp := [
 Dd 1 (.build [.bool false, .int .i64 0] [(0, 1, .const (.bool true))]),
 Dd 2 (.bslice 2 1 [.bool false, .int .i64 0] [(0, 2, .tmp 1)]),
 Dd 3 (.build [.int .i64 0, .slice none 0 0] [(1, 1, .tmp 2)]),
 Dd 4 (.build [.bool false, .int .i64 0] [(0, 1, .const (.bool true)), (1, 1, .const (.int .i64 1))]),
 Dd 5 (.build [.bool false, .int .i64 0] []),
 Dd 6 (.bslice 2 2 [.bool false, .int .i64 0, .bool false, .int .i64 0] [(0, 2, .tmp 4), (2, 2, .tmp 5)]),
 Dd 7 (.build [.int .i64 0, .slice none 0 0] [(1, 1, .tmp 6)]),
 Dd 8 (.bslice 2 2 [.int .i64 0, .slice none 0 0, .int .i64 0, .slice none 0 0] [(0, 2, .tmp 3), (2, 2, .tmp 7)]),
 Dd 9 (.build [.int .i64 0, .int .i64 0, .int .i64 0, .slice none 0 0] [(0, 1, .const (.int .i64 2)), (1, 1, .const (.int .i64 1)), (3, 1, .tmp 8)]),
 De (.store 4 (.tmp 0) (.tmp 9))]
def F.parlkeep5_plain.c : ACode := .seq (.region F.parlkeep5_plain.r0) (.seq (.region F.parlkeep5_plain.r1) (.ret))
def F.parlkeep5_plain : AFunc := ⟨F.parlkeep5_plain.c, [.cell 0 4 true]⟩
/-! parlance/parlkeep5.below -/
def F.parlkeep5_below.r0 : List DOp := [
 Dd 4 (.mv (.const (.int .i64 0)))]
def F.parlkeep5_below.r1 : List DOp := [
 Dd 5 (.mv (.tmp 0)),
 Dd 6 (.mv (.tmp 1)),
 Dd 7 (.call I.parlmake_Below [.tmp 5, .tmp 6]),
 Dd 4 (.mv (.tmp 7))]
def F.parlkeep5_below.c : ACode := .seq (.region F.parlkeep5_below.r0) (.seq (.region F.parlkeep5_below.r1) (.ret))
def F.parlkeep5_below : AFunc := ⟨F.parlkeep5_below.c, [.tmp 4]⟩
/-! parlance/parlkeep5.distinct -/
def F.parlkeep5_distinct.r0 : List DOp := [
 Dd 2 (.mv (.const (.slice none 0 0)))]
def F.parlkeep5_distinct.r1 : List DOp := [
 Dd 3 (.mv (.const (.slice none 0 0)))]
def F.parlkeep5_distinct.r2 : List DOp := [
 Dd 6 (.mv (.tmp 0)),
 Dd 7 (.len (.tmp 6)),
 Dd 8 (.mv (.const (.int .i64 0)))]
def F.parlkeep5_distinct.r3 : List DOp := [
 Dd 9 (.bin .lss (.tmp 8) (.tmp 7))]
def F.parlkeep5_distinct.r4 : List DOp := [
 Dd 10 (.idxs 2 (.tmp 6) (.tmp 8)),
 Dd 11 (.load 2 true (.tmp 10)),
 Dd 5 (.alloc [.int .i64 0, .slice none 0 0]),
 De (.store 2 (.tmp 5) (.tmp 11))]
def F.parlkeep5_distinct.r5 : List DOp := [
 Dd 12 (.mv (.tmp 3)),
 Dd 13 (.mkfn (.func I.parlkeep5_distinct_1) [.tmp 5]),
 Dd 14 (.call I.slices_ContainsFunc_api_Rule_api_Rule [.tmp 12, .tmp 13]),
 Dd 15 (.un .not (.tmp 14))]
def F.parlkeep5_distinct.r6 : List DOp := [
 Dd 16 (.mv (.tmp 3)),
 Dd 17 (.load 2 true (.tmp 5)),
 Dd 18 (.bslice 2 1 [.int .i64 0, .slice none 0 0] [(0, 2, .tmp 17)]),
 Dd 19 (.append 2 32 (.tmp 16) (.tmp 18)),
 Dd 3 (.mv (.tmp 19))]
def F.parlkeep5_distinct.r7 : List DOp := [
 Dd 20 (.bin .add (.tmp 8) (.const (.int .i64 1))),
 Dd 8 (.mv (.tmp 20))]
def F.parlkeep5_distinct.L0 : ACode := .seq (.region F.parlkeep5_distinct.r3) (.seq (.cond (.tmp 9) (.skip) (.exit 0)) (.seq (.block 1 (.seq (.region F.parlkeep5_distinct.r4) (.seq (.region F.parlkeep5_distinct.r5) (.cond (.tmp 15) (.region F.parlkeep5_distinct.r6) (.skip))))) (.region F.parlkeep5_distinct.r7)))
def F.parlkeep5_distinct.r8 : List DOp := [
 Dd 21 (.mv (.tmp 3)),
 Dd 2 (.mv (.tmp 21))]
def F.parlkeep5_distinct.c : ACode := .seq (.region F.parlkeep5_distinct.r0) (.seq (.region F.parlkeep5_distinct.r1) (.seq (.seq (.region F.parlkeep5_distinct.r2) (.block 0 (.loop F.parlkeep5_distinct.L0))) (.seq (.region F.parlkeep5_distinct.r8) (.ret))))
def F.parlkeep5_distinct : AFunc := ⟨F.parlkeep5_distinct.c, [.tmp 2]⟩
/-! parlance/parlkeep5.distinct$1 -/
def F.parlkeep5_distinct_1.r0 : List DOp := [
 Dd 2 (.box (.tmp 0)),
 Dd 3 (.mv (.const (.bool false)))]
def F.parlkeep5_distinct_1.r1 : List DOp := [
 Dd 4 (.faddr 0 (.tmp 2)),
 Dd 5 (.load 1 false (.tmp 4)),
 Dd 6 (.faddr 0 (.tmp 1)),
 Dd 7 (.load 1 false (.tmp 6)),
 Dd 8 (.bin .eql (.tmp 5) (.tmp 7)),
 Dd 9 (.mv (.tmp 8)),
 ⟨some 10, .faddr 1 (.tmp 2), (some (9, true)), []⟩,
 ⟨some 11, .load 1 false (.tmp 10), (some (9, true)), []⟩,
 ⟨some 12, .faddr 1 (.tmp 1), (some (9, true)), []⟩,
 ⟨some 13, .load 1 false (.tmp 12), (some (9, true)), []⟩,
 ⟨some 14, .call I.slices_Equal_api_Sym_api_Sym [.tmp 11, .tmp 13], (some (9, true)), []⟩,
 Dd 15 (.pick (.tmp 9) (.tmp 14) (.const (.bool false))),
 Dd 3 (.mv (.tmp 15))]
def F.parlkeep5_distinct_1.c : ACode := .seq (.region F.parlkeep5_distinct_1.r0) (.seq (.region F.parlkeep5_distinct_1.r1) (.ret))
def F.parlkeep5_distinct_1 : AFunc := ⟨F.parlkeep5_distinct_1.c, [.tmp 3]⟩
end Go.Proofs.Ythgdobdhdfjhfaa
