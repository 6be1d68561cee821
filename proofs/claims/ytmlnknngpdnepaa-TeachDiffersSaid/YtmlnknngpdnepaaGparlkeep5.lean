/- The abstract code of package parlkeep5, written by wip/tools/gen.py from the translation. -/
import Derived.Test.YtmlnknngpdnepaaI
namespace Go.Proofs.Ytmlnknngpdnepaa
open Go Go.Ab
/-! parlance/parlkeep5.TeachDiffers -/
def F.parlkeep5_TeachDiffers.r0 : List DOp := [
 Dd 4 (.mv (.const (.bool false)))]
def F.parlkeep5_TeachDiffers.r1 : List DOp := [
 Dd 18 (.mv (.tmp 0)),
 Dd 19 (.call I.parlmake_Dfa [.tmp 18]),
 Dd 20 (.mv (.tmp 1)),
 Dd 21 (.call I.parlmake_Dfa [.tmp 20]),
 Dd 5 (.alloc [.int .i64 0, .slice none 0 0, .slice none 0 0]),
 Dd 6 (.alloc [.int .i64 0, .slice none 0 0, .slice none 0 0]),
 De (.store 3 (.tmp 5) (.tmp 19)),
 De (.store 3 (.tmp 6) (.tmp 21))]
def F.parlkeep5_TeachDiffers.r2 : List DOp := [
 Dd 23 (.call I.parlkeep5_ends []),
 Dd 24 (.call I.teach_New [.tmp 23]),
 Dd 22 (.mv (.tmp 24)),
 Dd 25 (.extract (.tmp 22) 0),
 Dd 26 (.extract (.tmp 22) 1),
 Dd 7 (.mv (.tmp 25)),
 Dd 8 (.mv (.tmp 26))]
def F.parlkeep5_TeachDiffers.r3 : List DOp := [
 Dd 27 (.mv (.tmp 8)),
 Dd 28 (.bin .neq (.tmp 27) (.const (.int .i64 0))),
 Dd 29 (.mv (.tmp 28)),
 ⟨some 30, .mv (.tmp 7), (some (29, false)), []⟩,
 ⟨some 31, .eq false .ptr (.tmp 30) (.const (.pointer none)), (some (29, false)), []⟩,
 Dd 32 (.pick (.tmp 29) (.const (.bool true)) (.tmp 31)),
 Dd 33 (.mv (.tmp 32)),
 ⟨some 34, .mv (.tmp 7), (some (33, false)), []⟩,
 ⟨some 35, .call I.teach_Teacher_Symbols [.tmp 34], (some (33, false)), []⟩,
 ⟨some 36, .bin .neq (.tmp 35) (.const (.int .i64 2)), (some (33, false)), []⟩,
 Dd 37 (.pick (.tmp 33) (.const (.bool true)) (.tmp 36))]
def F.parlkeep5_TeachDiffers.r4 : List DOp := [
 Dd 4 (.mv (.const (.bool false)))]
def F.parlkeep5_TeachDiffers.r5 : List DOp := [
 Dd 39 (.load 3 true (.tmp 5)),
 Dd 40 (.call I.teach_New [.tmp 39]),
 Dd 38 (.mv (.tmp 40)),
 Dd 41 (.extract (.tmp 38) 0),
 Dd 42 (.extract (.tmp 38) 1),
 Dd 7 (.mv (.tmp 41)),
 Dd 8 (.mv (.tmp 42))]
def F.parlkeep5_TeachDiffers.r6 : List DOp := [
 Dd 43 (.mv (.tmp 8)),
 Dd 44 (.bin .neq (.tmp 43) (.const (.int .i64 0))),
 Dd 45 (.mv (.tmp 44)),
 ⟨some 46, .mv (.tmp 7), (some (45, false)), []⟩,
 ⟨some 47, .eq false .ptr (.tmp 46) (.const (.pointer none)), (some (45, false)), []⟩,
 Dd 48 (.pick (.tmp 45) (.const (.bool true)) (.tmp 47))]
def F.parlkeep5_TeachDiffers.r7 : List DOp := [
 Dd 4 (.mv (.const (.bool false)))]
def F.parlkeep5_TeachDiffers.r8 : List DOp := [
 Dd 50 (.load 3 true (.tmp 5)),
 Dd 51 (.call I.mini_Min [.tmp 50]),
 Dd 49 (.mv (.tmp 51)),
 Dd 52 (.extract (.tmp 49) 0),
 Dd 53 (.extract (.tmp 49) 1),
 Dd 9 (.alloc [.int .i64 0, .slice none 0 0, .slice none 0 0]),
 De (.store 3 (.tmp 9) (.tmp 52)),
 Dd 10 (.mv (.tmp 53))]
def F.parlkeep5_TeachDiffers.r9 : List DOp := [
 Dd 55 (.mv (.tmp 7)),
 Dd 56 (.load 3 true (.tmp 9)),
 Dd 57 (.call I.teach_Teacher_Equal [.tmp 55, .tmp 56]),
 Dd 54 (.mv (.tmp 57)),
 Dd 58 (.extract (.tmp 54) 0),
 Dd 59 (.extract (.tmp 54) 1),
 Dd 60 (.extract (.tmp 54) 2),
 Dd 11 (.mv (.tmp 58)),
 Dd 12 (.mv (.tmp 59)),
 Dd 13 (.mv (.tmp 60))]
def F.parlkeep5_TeachDiffers.r10 : List DOp := [
 Dd 61 (.mv (.tmp 10)),
 Dd 62 (.bin .neq (.tmp 61) (.const (.int .i64 0))),
 Dd 63 (.mv (.tmp 62)),
 ⟨some 64, .mv (.tmp 13), (some (63, false)), []⟩,
 ⟨some 65, .bin .neq (.tmp 64) (.const (.int .i64 0)), (some (63, false)), []⟩,
 Dd 66 (.pick (.tmp 63) (.const (.bool true)) (.tmp 65)),
 Dd 67 (.mv (.tmp 66)),
 ⟨some 68, .mv (.tmp 11), (some (67, false)), []⟩,
 ⟨some 69, .un .not (.tmp 68), (some (67, false)), []⟩,
 Dd 70 (.pick (.tmp 67) (.const (.bool true)) (.tmp 69))]
def F.parlkeep5_TeachDiffers.r11 : List DOp := [
 Dd 4 (.mv (.const (.bool false)))]
def F.parlkeep5_TeachDiffers.r12 : List DOp := [
 Dd 72 (.mv (.tmp 7)),
 Dd 73 (.load 3 true (.tmp 6)),
 Dd 74 (.call I.teach_Teacher_Equal [.tmp 72, .tmp 73]),
 Dd 71 (.mv (.tmp 74)),
 Dd 75 (.extract (.tmp 71) 0),
 Dd 76 (.extract (.tmp 71) 1),
 Dd 77 (.extract (.tmp 71) 2),
 Dd 11 (.mv (.tmp 75)),
 Dd 14 (.mv (.tmp 76)),
 Dd 13 (.mv (.tmp 77))]
def F.parlkeep5_TeachDiffers.r13 : List DOp := [
 Dd 78 (.faddr 2 (.tmp 6)),
 Dd 79 (.load 1 false (.tmp 78)),
 Dd 80 (.idxs 1 (.tmp 79) (.const (.int .i64 0))),
 Dd 81 (.load 1 false (.tmp 80)),
 Dd 82 (.len (.tmp 81)),
 Dd 83 (.mv (.tmp 7)),
 Dd 84 (.call I.teach_Teacher_Symbols [.tmp 83]),
 Dd 85 (.bin .neq (.tmp 82) (.tmp 84))]
def F.parlkeep5_TeachDiffers.r14 : List DOp := [
 Dd 86 (.mv (.tmp 13)),
 Dd 87 (.bin .eql (.tmp 86) (.const (.int .i64 1))),
 Dd 4 (.mv (.tmp 87))]
def F.parlkeep5_TeachDiffers.r15 : List DOp := [
 Dd 88 (.mv (.tmp 13)),
 Dd 89 (.bin .neq (.tmp 88) (.const (.int .i64 0))),
 Dd 90 (.mv (.tmp 89)),
 ⟨some 91, .mv (.tmp 11), (some (90, false)), []⟩,
 ⟨some 92, .mv (.tmp 14), (some (90, false)), []⟩,
 ⟨some 93, .len (.tmp 92), (some (90, false)), []⟩,
 ⟨some 94, .bin .eql (.tmp 93) (.const (.int .i64 0)), (some (90, false)), []⟩,
 ⟨some 95, .mv (.tmp 94), (some (90, false)), []⟩,
 ⟨some 96, .load 3 true (.tmp 5), (some (95, true)), []⟩,
 ⟨some 97, .call I.parlkeep5_accepts [.tmp 96, .const (.slice none 0 0)], (some (95, true)), []⟩,
 ⟨some 98, .load 3 true (.tmp 6), (some (95, true)), []⟩,
 ⟨some 99, .call I.parlkeep5_accepts [.tmp 98, .const (.slice none 0 0)], (some (95, true)), []⟩,
 ⟨some 100, .eq false .bool (.tmp 97) (.tmp 99), (some (95, true)), []⟩,
 ⟨some 101, .pick (.tmp 95) (.tmp 100) (.const (.bool false)), (some (90, false)), []⟩,
 ⟨some 102, .eq true .bool (.tmp 91) (.tmp 101), (some (90, false)), []⟩,
 Dd 103 (.pick (.tmp 90) (.const (.bool true)) (.tmp 102))]
def F.parlkeep5_TeachDiffers.r16 : List DOp := [
 Dd 4 (.mv (.const (.bool false)))]
def F.parlkeep5_TeachDiffers.r17 : List DOp := [
 Dd 104 (.mv (.tmp 11)),
 Dd 105 (.mv (.tmp 104)),
 ⟨some 106, .mv (.tmp 14), (some (105, false)), []⟩,
 ⟨some 107, .len (.tmp 106), (some (105, false)), []⟩,
 ⟨some 108, .bin .gtr (.tmp 107) (.const (.int .i64 5)), (some (105, false)), []⟩,
 Dd 109 (.pick (.tmp 105) (.const (.bool true)) (.tmp 108))]
def F.parlkeep5_TeachDiffers.r18 : List DOp := [
 Dd 110 (.mv (.tmp 11)),
 Dd 111 (.mv (.tmp 110)),
 ⟨some 112, .load 3 true (.tmp 5), (some (111, false)), []⟩,
 ⟨some 113, .mv (.tmp 14), (some (111, false)), []⟩,
 ⟨some 114, .call I.parlkeep5_accepts [.tmp 112, .tmp 113], (some (111, false)), []⟩,
 ⟨some 115, .load 3 true (.tmp 6), (some (111, false)), []⟩,
 ⟨some 116, .mv (.tmp 14), (some (111, false)), []⟩,
 ⟨some 117, .call I.parlkeep5_accepts [.tmp 115, .tmp 116], (some (111, false)), []⟩,
 ⟨some 118, .eq true .bool (.tmp 114) (.tmp 117), (some (111, false)), []⟩,
 Dd 119 (.pick (.tmp 111) (.const (.bool true)) (.tmp 118)),
 Dd 4 (.mv (.tmp 119))]
def F.parlkeep5_TeachDiffers.r19 : List DOp := [
 Dd 120 (.mv (.tmp 14)),
 Dd 121 (.len (.tmp 120)),
 Dd 122 (.bin .add (.tmp 121) (.const (.int .i64 1))),
 Dd 123 (.mv (.const (.int .i64 0)))]
def F.parlkeep5_TeachDiffers.r20 : List DOp := [
 Dd 124 (.bin .lss (.tmp 123) (.tmp 122))]
def F.parlkeep5_TeachDiffers.r21 : List DOp := [
 Dd 125 (.mv (.tmp 123)),
 Dd 15 (.mv (.tmp 125))]
def F.parlkeep5_TeachDiffers.r22 : List DOp := [
 Dd 126 (.mv (.tmp 7)),
 Dd 127 (.call I.teach_Teacher_Symbols [.tmp 126]),
 Dd 128 (.mv (.tmp 15)),
 Dd 129 (.call I.parlkeep5_words [.tmp 127, .tmp 128]),
 Dd 130 (.len (.tmp 129)),
 Dd 131 (.mv (.const (.int .i64 0)))]
def F.parlkeep5_TeachDiffers.r23 : List DOp := [
 Dd 132 (.bin .lss (.tmp 131) (.tmp 130))]
def F.parlkeep5_TeachDiffers.r24 : List DOp := [
 Dd 133 (.idxs 1 (.tmp 129) (.tmp 131)),
 Dd 134 (.load 1 false (.tmp 133)),
 Dd 17 (.mv (.tmp 134))]
def F.parlkeep5_TeachDiffers.r25 : List DOp := [
 Dd 135 (.mv (.tmp 17)),
 Dd 136 (.mv (.tmp 14)),
 Dd 137 (.call I.slices_Equal_int_int [.tmp 135, .tmp 136])]
def F.parlkeep5_TeachDiffers.r26 : List DOp := [
 Dd 138 (.load 3 true (.tmp 5)),
 Dd 139 (.mv (.tmp 14)),
 Dd 140 (.call I.parlkeep5_accepts [.tmp 138, .tmp 139]),
 Dd 141 (.load 3 true (.tmp 6)),
 Dd 142 (.mv (.tmp 14)),
 Dd 143 (.call I.parlkeep5_accepts [.tmp 141, .tmp 142]),
 Dd 144 (.eq true .bool (.tmp 140) (.tmp 143)),
 Dd 4 (.mv (.tmp 144))]
def F.parlkeep5_TeachDiffers.r27 : List DOp := [
 Dd 145 (.load 3 true (.tmp 5)),
 Dd 146 (.mv (.tmp 17)),
 Dd 147 (.call I.parlkeep5_accepts [.tmp 145, .tmp 146]),
 Dd 148 (.load 3 true (.tmp 6)),
 Dd 149 (.mv (.tmp 17)),
 Dd 150 (.call I.parlkeep5_accepts [.tmp 148, .tmp 149]),
 Dd 151 (.eq true .bool (.tmp 147) (.tmp 150))]
def F.parlkeep5_TeachDiffers.r28 : List DOp := [
 Dd 4 (.mv (.const (.bool false)))]
def F.parlkeep5_TeachDiffers.r29 : List DOp := [
 Dd 152 (.bin .add (.tmp 131) (.const (.int .i64 1))),
 Dd 131 (.mv (.tmp 152))]
def F.parlkeep5_TeachDiffers.L1 : ACode := .seq (.region F.parlkeep5_TeachDiffers.r23) (.seq (.cond (.tmp 132) (.skip) (.exit 2)) (.seq (.block 3 (.seq (.region F.parlkeep5_TeachDiffers.r24) (.seq (.seq (.region F.parlkeep5_TeachDiffers.r25) (.cond (.tmp 137) (.seq (.draw F.parlkeep5_TeachDiffers.r26 [(3, 2)]) (.ret)) (.skip))) (.seq (.draw F.parlkeep5_TeachDiffers.r27 [(3, 2)]) (.cond (.tmp 151) (.seq (.region F.parlkeep5_TeachDiffers.r28) (.ret)) (.skip)))))) (.region F.parlkeep5_TeachDiffers.r29)))
def F.parlkeep5_TeachDiffers.r30 : List DOp := [
 Dd 153 (.bin .add (.tmp 123) (.const (.int .i64 1))),
 Dd 123 (.mv (.tmp 153))]
def F.parlkeep5_TeachDiffers.L0 : ACode := .seq (.region F.parlkeep5_TeachDiffers.r20) (.seq (.cond (.tmp 124) (.skip) (.exit 0)) (.seq (.block 1 (.seq (.region F.parlkeep5_TeachDiffers.r21) (.seq (.region F.parlkeep5_TeachDiffers.r22) (.block 2 (.loop F.parlkeep5_TeachDiffers.L1))))) (.region F.parlkeep5_TeachDiffers.r30)))
def F.parlkeep5_TeachDiffers.r31 : List DOp := [
 Dd 4 (.mv (.const (.bool false)))]
def F.parlkeep5_TeachDiffers.c : ACode := .seq (.region F.parlkeep5_TeachDiffers.r0) (.seq (.region F.parlkeep5_TeachDiffers.r1) (.seq (.region F.parlkeep5_TeachDiffers.r2) (.seq (.seq (.region F.parlkeep5_TeachDiffers.r3) (.cond (.tmp 37) (.seq (.region F.parlkeep5_TeachDiffers.r4) (.ret)) (.skip))) (.seq (.region F.parlkeep5_TeachDiffers.r5) (.seq (.seq (.region F.parlkeep5_TeachDiffers.r6) (.cond (.tmp 48) (.seq (.region F.parlkeep5_TeachDiffers.r7) (.ret)) (.skip))) (.seq (.region F.parlkeep5_TeachDiffers.r8) (.seq (.region F.parlkeep5_TeachDiffers.r9) (.seq (.seq (.region F.parlkeep5_TeachDiffers.r10) (.cond (.tmp 70) (.seq (.region F.parlkeep5_TeachDiffers.r11) (.ret)) (.skip))) (.seq (.region F.parlkeep5_TeachDiffers.r12) (.seq (.seq (.draw F.parlkeep5_TeachDiffers.r13 [(1, 6), (3, 6)]) (.cond (.tmp 85) (.seq (.region F.parlkeep5_TeachDiffers.r14) (.ret)) (.skip))) (.seq (.seq (.draw F.parlkeep5_TeachDiffers.r15 [(10, 9)]) (.cond (.tmp 103) (.seq (.region F.parlkeep5_TeachDiffers.r16) (.ret)) (.skip))) (.seq (.seq (.region F.parlkeep5_TeachDiffers.r17) (.cond (.tmp 109) (.seq (.draw F.parlkeep5_TeachDiffers.r18 [(5, 4)]) (.ret)) (.skip))) (.seq (.seq (.region F.parlkeep5_TeachDiffers.r19) (.block 0 (.loop F.parlkeep5_TeachDiffers.L0))) (.seq (.region F.parlkeep5_TeachDiffers.r31) (.ret)))))))))))))))
def F.parlkeep5_TeachDiffers : AFunc := ⟨F.parlkeep5_TeachDiffers.c, [.tmp 4]⟩
/-! parlance/parlkeep5.ends -/
def F.parlkeep5_ends.r0 : List DOp := [
 Dd 0 (.alloc [.int .i64 0, .slice none 0 0, .slice none 0 0])]
def F.parlkeep5_ends.r1 : List DOp := [
 Dd 1 (.bslice 1 2 [.int .i64 0, .int .i64 0] [(0, 1, .const (.int .i64 (-1))), (1, 1, .const (.int .i64 0))]),
 Dd 2 (.bslice 1 2 [.int .i64 0, .int .i64 0] [(0, 1, .const (.int .i64 1)), (1, 1, .const (.int .i64 0))]),
 Dd 3 (.bslice 1 2 [.int .i64 0, .int .i64 0] [(0, 1, .const (.int .i64 1)), (1, 1, .const (.int .i64 0))]),
 Dd 4 (.bslice 1 2 [.slice none 0 0, .slice none 0 0] [(0, 1, .tmp 2), (1, 1, .tmp 3)]),
 Dd 5 (.build [.int .i64 0, .slice none 0 0, .slice none 0 0] [(1, 1, .tmp 1), (2, 1, .tmp 4)]),
 De (.store 3 (.tmp 0) (.tmp 5))]
def F.parlkeep5_ends.c : ACode := .seq (.region F.parlkeep5_ends.r0) (.seq (.region F.parlkeep5_ends.r1) (.ret))
def F.parlkeep5_ends : AFunc := ⟨F.parlkeep5_ends.c, [.cell 0 3 true]⟩
/-! parlance/parlkeep5.accepts -/
def F.parlkeep5_accepts.r0 : List DOp := [
 Dd 2 (.box (.tmp 0)),
 Dd 4 (.mv (.const (.bool false)))]
def F.parlkeep5_accepts.r1 : List DOp := [
 Dd 8 (.load 3 true (.tmp 2)),
 Dd 9 (.mv (.tmp 1)),
 Dd 10 (.call I.dfa_Run [.tmp 8, .tmp 9]),
 Dd 7 (.mv (.tmp 10)),
 Dd 11 (.extract (.tmp 7) 0),
 Dd 12 (.extract (.tmp 7) 1),
 Dd 5 (.mv (.tmp 11)),
 Dd 6 (.mv (.tmp 12))]
def F.parlkeep5_accepts.r2 : List DOp := [
 Dd 13 (.mv (.tmp 6)),
 Dd 14 (.bin .eql (.tmp 13) (.const (.int .i64 0))),
 Dd 15 (.mv (.tmp 14)),
 ⟨some 16, .mv (.tmp 5), (some (15, true)), []⟩,
 ⟨some 17, .bin .geq (.tmp 16) (.const (.int .i64 0)), (some (15, true)), []⟩,
 Dd 18 (.pick (.tmp 15) (.tmp 17) (.const (.bool false))),
 Dd 4 (.mv (.tmp 18))]
def F.parlkeep5_accepts.c : ACode := .seq (.region F.parlkeep5_accepts.r0) (.seq (.region F.parlkeep5_accepts.r1) (.seq (.region F.parlkeep5_accepts.r2) (.ret)))
def F.parlkeep5_accepts : AFunc := ⟨F.parlkeep5_accepts.c, [.tmp 4]⟩
/-! parlance/parlkeep5.words -/
def F.parlkeep5_words.r0 : List DOp := [
 Dd 4 (.mv (.const (.slice none 0 0)))]
def F.parlkeep5_words.r1 : List DOp := [
 Dd 10 (.bslice 1 1 [.slice none 0 0] [(0, 1, .const (.slice none 0 0))]),
 Dd 5 (.mv (.tmp 10))]
def F.parlkeep5_words.r2 : List DOp := [
 Dd 11 (.mv (.tmp 1)),
 Dd 12 (.mv (.const (.int .i64 0)))]
def F.parlkeep5_words.r3 : List DOp := [
 Dd 13 (.bin .lss (.tmp 12) (.tmp 11))]
def F.parlkeep5_words.r4 : List DOp := [
 Dd 6 (.mv (.const (.slice none 0 0)))]
def F.parlkeep5_words.r5 : List DOp := [
 Dd 14 (.mv (.tmp 5)),
 Dd 15 (.len (.tmp 14)),
 Dd 16 (.mv (.const (.int .i64 0)))]
def F.parlkeep5_words.r6 : List DOp := [
 Dd 17 (.bin .lss (.tmp 16) (.tmp 15))]
def F.parlkeep5_words.r7 : List DOp := [
 Dd 18 (.idxs 1 (.tmp 14) (.tmp 16)),
 Dd 19 (.load 1 false (.tmp 18)),
 Dd 8 (.mv (.tmp 19))]
def F.parlkeep5_words.r8 : List DOp := [
 Dd 20 (.mv (.tmp 0)),
 Dd 21 (.mv (.const (.int .i64 0)))]
def F.parlkeep5_words.r9 : List DOp := [
 Dd 22 (.bin .lss (.tmp 21) (.tmp 20))]
def F.parlkeep5_words.r10 : List DOp := [
 Dd 23 (.mv (.tmp 21)),
 Dd 9 (.mv (.tmp 23))]
def F.parlkeep5_words.r11 : List DOp := [
 Dd 24 (.mv (.tmp 6)),
 Dd 25 (.mv (.tmp 8)),
 Dd 26 (.call I.slices_Clone_int_int [.tmp 25]),
 Dd 27 (.mv (.tmp 9)),
 Dd 28 (.bslice 1 1 [.int .i64 0] [(0, 1, .tmp 27)]),
 Dd 29 (.append 1 8 (.tmp 26) (.tmp 28)),
 Dd 30 (.bslice 1 1 [.slice none 0 0] [(0, 1, .tmp 29)]),
 Dd 31 (.append 1 24 (.tmp 24) (.tmp 30)),
 Dd 6 (.mv (.tmp 31))]
def F.parlkeep5_words.r12 : List DOp := [
 Dd 32 (.bin .add (.tmp 21) (.const (.int .i64 1))),
 Dd 21 (.mv (.tmp 32))]
def F.parlkeep5_words.L2 : ACode := .seq (.region F.parlkeep5_words.r9) (.seq (.cond (.tmp 22) (.skip) (.exit 4)) (.seq (.block 5 (.seq (.region F.parlkeep5_words.r10) (.region F.parlkeep5_words.r11))) (.region F.parlkeep5_words.r12)))
def F.parlkeep5_words.r13 : List DOp := [
 Dd 33 (.bin .add (.tmp 16) (.const (.int .i64 1))),
 Dd 16 (.mv (.tmp 33))]
def F.parlkeep5_words.L1 : ACode := .seq (.region F.parlkeep5_words.r6) (.seq (.cond (.tmp 17) (.skip) (.exit 2)) (.seq (.block 3 (.seq (.region F.parlkeep5_words.r7) (.seq (.region F.parlkeep5_words.r8) (.block 4 (.loop F.parlkeep5_words.L2))))) (.region F.parlkeep5_words.r13)))
def F.parlkeep5_words.r14 : List DOp := [
 Dd 34 (.mv (.tmp 6)),
 Dd 5 (.mv (.tmp 34))]
def F.parlkeep5_words.r15 : List DOp := [
 Dd 35 (.bin .add (.tmp 12) (.const (.int .i64 1))),
 Dd 12 (.mv (.tmp 35))]
def F.parlkeep5_words.L0 : ACode := .seq (.region F.parlkeep5_words.r3) (.seq (.cond (.tmp 13) (.skip) (.exit 0)) (.seq (.block 1 (.seq (.region F.parlkeep5_words.r4) (.seq (.seq (.region F.parlkeep5_words.r5) (.block 2 (.loop F.parlkeep5_words.L1))) (.region F.parlkeep5_words.r14)))) (.region F.parlkeep5_words.r15)))
def F.parlkeep5_words.r16 : List DOp := [
 Dd 36 (.mv (.tmp 5)),
 Dd 4 (.mv (.tmp 36))]
def F.parlkeep5_words.c : ACode := .seq (.region F.parlkeep5_words.r0) (.seq (.region F.parlkeep5_words.r1) (.seq (.seq (.region F.parlkeep5_words.r2) (.block 0 (.loop F.parlkeep5_words.L0))) (.seq (.region F.parlkeep5_words.r16) (.ret))))
def F.parlkeep5_words : AFunc := ⟨F.parlkeep5_words.c, [.tmp 4]⟩
end Go.Proofs.Ytmlnknngpdnepaa
