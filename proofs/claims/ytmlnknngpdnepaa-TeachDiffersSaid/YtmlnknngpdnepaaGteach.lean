/- The abstract code of package teach, written by wip/tools/gen.py from the translation. -/
import Derived.Test.YtmlnknngpdnepaaI
namespace Go.Proofs.Ytmlnknngpdnepaa
open Go Go.Ab
/-! parlance/teach.New -/
def F.teach_New.r0 : List DOp := [
 Dd 1 (.box (.tmp 0)),
 Dd 2 (.mv (.const (.pointer none))),
 Dd 3 (.mv (.const (.int .i64 0)))]
def F.teach_New.r1 : List DOp := [
 Dd 8 (.load 3 true (.tmp 1)),
 Dd 9 (.call I.dfa_Check [.tmp 8]),
 Dd 4 (.mv (.tmp 9))]
def F.teach_New.r2 : List DOp := [
 Dd 10 (.mv (.tmp 4)),
 Dd 11 (.bin .neq (.tmp 10) (.const (.int .i64 0)))]
def F.teach_New.r3 : List DOp := [
 Dd 12 (.mv (.tmp 4)),
 Dd 2 (.mv (.const (.pointer none))),
 Dd 3 (.mv (.tmp 12))]
def F.teach_New.r4 : List DOp := [
 Dd 13 (.faddr 0 (.tmp 1)),
 Dd 14 (.load 1 false (.tmp 13)),
 Dd 15 (.faddr 1 (.tmp 1)),
 Dd 16 (.load 1 false (.tmp 15)),
 Dd 17 (.append 1 8 (.const (.slice none 0 0)) (.tmp 16)),
 Dd 18 (.build [.int .i64 0, .slice none 0 0, .slice none 0 0] [(0, 1, .tmp 14), (1, 1, .tmp 17)]),
 Dd 19 (.build [.int .i64 0, .slice none 0 0, .slice none 0 0, .int .i64 0, .int .i64 0] [(0, 3, .tmp 18)]),
 Dd 20 (.box (.tmp 19)),
 Dd 5 (.mv (.tmp 20))]
def F.teach_New.r5 : List DOp := [
 Dd 21 (.faddr 2 (.tmp 1)),
 Dd 22 (.load 1 false (.tmp 21)),
 Dd 23 (.len (.tmp 22)),
 Dd 24 (.mv (.const (.int .i64 0)))]
def F.teach_New.r6 : List DOp := [
 Dd 25 (.bin .lss (.tmp 24) (.tmp 23))]
def F.teach_New.r7 : List DOp := [
 Dd 26 (.idxs 1 (.tmp 22) (.tmp 24)),
 Dd 27 (.load 1 false (.tmp 26)),
 Dd 7 (.mv (.tmp 27))]
def F.teach_New.r8 : List DOp := [
 Dd 28 (.mv (.tmp 5)),
 Dd 29 (.mv (.tmp 5)),
 Dd 30 (.nilchk (.tmp 29)),
 Dd 31 (.faddr 0 (.tmp 30)),
 Dd 32 (.faddr 2 (.tmp 31)),
 Dd 33 (.load 1 false (.tmp 32)),
 Dd 34 (.mv (.tmp 7)),
 Dd 35 (.append 1 8 (.const (.slice none 0 0)) (.tmp 34)),
 Dd 36 (.bslice 1 1 [.slice none 0 0] [(0, 1, .tmp 35)]),
 Dd 37 (.append 1 24 (.tmp 33) (.tmp 36)),
 Dd 38 (.nilchk (.tmp 28)),
 Dd 39 (.faddr 0 (.tmp 38)),
 Dd 40 (.faddr 2 (.tmp 39)),
 De (.store 1 (.tmp 40) (.tmp 37))]
def F.teach_New.r9 : List DOp := [
 Dd 41 (.bin .add (.tmp 24) (.const (.int .i64 1))),
 Dd 24 (.mv (.tmp 41))]
def F.teach_New.L0 : ACode := .seq (.region F.teach_New.r6) (.seq (.cond (.tmp 25) (.skip) (.exit 0)) (.seq (.block 1 (.seq (.region F.teach_New.r7) (.draw F.teach_New.r8 [(5, 7)]))) (.region F.teach_New.r9)))
def F.teach_New.r10 : List DOp := [
 Dd 42 (.mv (.tmp 5)),
 Dd 2 (.mv (.tmp 42)),
 Dd 3 (.mv (.const (.int .i64 0)))]
def F.teach_New.c : ACode := .seq (.region F.teach_New.r0) (.seq (.seq (.region F.teach_New.r1) (.seq (.region F.teach_New.r2) (.cond (.tmp 11) (.seq (.region F.teach_New.r3) (.ret)) (.skip)))) (.seq (.draw F.teach_New.r4 [(1, 4)]) (.seq (.seq (.region F.teach_New.r5) (.block 0 (.loop F.teach_New.L0))) (.seq (.region F.teach_New.r10) (.ret)))))
def F.teach_New : AFunc := ⟨F.teach_New.c, [.tmp 2, .tmp 3]⟩
/-! (*parlance/teach.Teacher).Symbols -/
def F.teach_Teacher_Symbols.r0 : List DOp := [
 Dd 2 (.mv (.const (.int .i64 0)))]
def F.teach_Teacher_Symbols.r1 : List DOp := [
 Dd 3 (.mv (.tmp 0)),
 Dd 4 (.nilchk (.tmp 3)),
 Dd 5 (.faddr 0 (.tmp 4)),
 Dd 6 (.faddr 2 (.tmp 5)),
 Dd 7 (.load 1 false (.tmp 6)),
 Dd 8 (.idxs 1 (.tmp 7) (.const (.int .i64 0))),
 Dd 9 (.load 1 false (.tmp 8)),
 Dd 10 (.len (.tmp 9)),
 Dd 2 (.mv (.tmp 10))]
def F.teach_Teacher_Symbols.c : ACode := .seq (.region F.teach_Teacher_Symbols.r0) (.seq (.region F.teach_Teacher_Symbols.r1) (.ret))
def F.teach_Teacher_Symbols : AFunc := ⟨F.teach_Teacher_Symbols.c, [.tmp 2]⟩
/-! (*parlance/teach.Teacher).Equal -/
def F.teach_Teacher_Equal.r0 : List DOp := [
 Dd 3 (.box (.tmp 1)),
 Dd 4 (.mv (.const (.bool false))),
 Dd 5 (.mv (.const (.slice none 0 0))),
 Dd 6 (.mv (.const (.int .i64 0)))]
def F.teach_Teacher_Equal.r1 : List DOp := [
 Dd 10 (.load 3 true (.tmp 3)),
 Dd 11 (.call I.dfa_Check [.tmp 10]),
 Dd 7 (.mv (.tmp 11))]
def F.teach_Teacher_Equal.r2 : List DOp := [
 Dd 12 (.mv (.tmp 7)),
 Dd 13 (.bin .neq (.tmp 12) (.const (.int .i64 0)))]
def F.teach_Teacher_Equal.r3 : List DOp := [
 Dd 14 (.mv (.tmp 7)),
 Dd 4 (.mv (.const (.bool false))),
 Dd 5 (.mv (.const (.slice none 0 0))),
 Dd 6 (.mv (.tmp 14))]
def F.teach_Teacher_Equal.r4 : List DOp := [
 Dd 15 (.faddr 2 (.tmp 3)),
 Dd 16 (.load 1 false (.tmp 15)),
 Dd 17 (.idxs 1 (.tmp 16) (.const (.int .i64 0))),
 Dd 18 (.load 1 false (.tmp 17)),
 Dd 19 (.len (.tmp 18)),
 Dd 20 (.mv (.tmp 0)),
 Dd 21 (.call I.teach_Teacher_Symbols [.tmp 20]),
 Dd 22 (.bin .neq (.tmp 19) (.tmp 21))]
def F.teach_Teacher_Equal.r5 : List DOp := [
 Dd 4 (.mv (.const (.bool false))),
 Dd 5 (.mv (.const (.slice none 0 0))),
 Dd 6 (.mv (.const (.int .i64 1)))]
def F.teach_Teacher_Equal.r6 : List DOp := [
 Dd 23 (.mv (.tmp 0)),
 Dd 24 (.nilchk (.tmp 23)),
 Dd 25 (.faddr 4 (.tmp 24)),
 Dd 26 (.load 1 false (.tmp 25)),
 Dd 27 (.bin .add (.tmp 26) (.const (.int .i64 1))),
 Dd 28 (.nilchk (.tmp 23)),
 Dd 29 (.faddr 4 (.tmp 28)),
 De (.store 1 (.tmp 29) (.tmp 27))]
def F.teach_Teacher_Equal.r7 : List DOp := [
 Dd 31 (.mv (.tmp 0)),
 Dd 32 (.nilchk (.tmp 31)),
 Dd 33 (.faddr 0 (.tmp 32)),
 Dd 34 (.load 3 true (.tmp 33)),
 Dd 35 (.load 3 true (.tmp 3)),
 Dd 36 (.call I.teach_Differ [.tmp 34, .tmp 35]),
 Dd 30 (.mv (.tmp 36)),
 Dd 37 (.extract (.tmp 30) 0),
 Dd 38 (.extract (.tmp 30) 1),
 Dd 8 (.mv (.tmp 37)),
 Dd 9 (.mv (.tmp 38))]
def F.teach_Teacher_Equal.r8 : List DOp := [
 Dd 39 (.mv (.tmp 9)),
 Dd 40 (.un .not (.tmp 39)),
 Dd 41 (.mv (.tmp 8)),
 Dd 4 (.mv (.tmp 40)),
 Dd 5 (.mv (.tmp 41)),
 Dd 6 (.mv (.const (.int .i64 0)))]
def F.teach_Teacher_Equal.c : ACode := .seq (.region F.teach_Teacher_Equal.r0) (.seq (.seq (.region F.teach_Teacher_Equal.r1) (.seq (.region F.teach_Teacher_Equal.r2) (.cond (.tmp 13) (.seq (.region F.teach_Teacher_Equal.r3) (.ret)) (.skip)))) (.seq (.seq (.draw F.teach_Teacher_Equal.r4 [(1, 6), (3, 6)]) (.cond (.tmp 22) (.seq (.region F.teach_Teacher_Equal.r5) (.ret)) (.skip))) (.seq (.region F.teach_Teacher_Equal.r6) (.seq (.draw F.teach_Teacher_Equal.r7 []) (.seq (.region F.teach_Teacher_Equal.r8) (.ret))))))
def F.teach_Teacher_Equal : AFunc := ⟨F.teach_Teacher_Equal.c, [.tmp 4, .tmp 5, .tmp 6]⟩
/-! parlance/teach.Differ -/
def F.teach_Differ.r0 : List DOp := [
 Dd 2 (.box (.tmp 0)),
 Dd 3 (.box (.tmp 1)),
 Dd 4 (.mv (.const (.slice none 0 0))),
 Dd 5 (.mv (.const (.bool false)))]
def F.teach_Differ.r1 : List DOp := [
 Dd 13 (.load 3 true (.tmp 2)),
 Dd 14 (.call I.dfa_Check [.tmp 13]),
 Dd 15 (.bin .neq (.tmp 14) (.const (.int .i64 0))),
 Dd 16 (.mv (.tmp 15)),
 ⟨some 17, .load 3 true (.tmp 3), (some (16, false)), []⟩,
 ⟨some 18, .call I.dfa_Check [.tmp 17], (some (16, false)), []⟩,
 ⟨some 19, .bin .neq (.tmp 18) (.const (.int .i64 0)), (some (16, false)), []⟩,
 Dd 20 (.pick (.tmp 16) (.const (.bool true)) (.tmp 19)),
 Dd 21 (.mv (.tmp 20)),
 ⟨some 22, .faddr 2 (.tmp 2), (some (21, false)), []⟩,
 ⟨some 23, .load 1 false (.tmp 22), (some (21, false)), []⟩,
 ⟨some 24, .idxs 1 (.tmp 23) (.const (.int .i64 0)), (some (21, false)), []⟩,
 ⟨some 25, .load 1 false (.tmp 24), (some (21, false)), []⟩,
 ⟨some 26, .len (.tmp 25), (some (21, false)), []⟩,
 ⟨some 27, .faddr 2 (.tmp 3), (some (21, false)), []⟩,
 ⟨some 28, .load 1 false (.tmp 27), (some (21, false)), []⟩,
 ⟨some 29, .idxs 1 (.tmp 28) (.const (.int .i64 0)), (some (21, false)), []⟩,
 ⟨some 30, .load 1 false (.tmp 29), (some (21, false)), []⟩,
 ⟨some 31, .len (.tmp 30), (some (21, false)), []⟩,
 ⟨some 32, .bin .neq (.tmp 26) (.tmp 31), (some (21, false)), []⟩,
 Dd 33 (.pick (.tmp 21) (.const (.bool true)) (.tmp 32))]
def F.teach_Differ.r2 : List DOp := [
 Dd 4 (.mv (.const (.slice none 0 0))),
 Dd 5 (.mv (.const (.bool false)))]
def F.teach_Differ.r3 : List DOp := [
 Dd 34 (.faddr 0 (.tmp 2)),
 Dd 35 (.load 1 false (.tmp 34)),
 Dd 36 (.faddr 0 (.tmp 3)),
 Dd 37 (.load 1 false (.tmp 36)),
 Dd 38 (.build [.int .i64 0, .int .i64 0, .int .i64 0, .int .i64 0] [(0, 1, .tmp 35), (1, 1, .tmp 37), (2, 1, .const (.int .i64 (-1))), (3, 1, .const (.int .i64 0))]),
 Dd 39 (.bslice 4 1 [.int .i64 0, .int .i64 0, .int .i64 0, .int .i64 0] [(0, 4, .tmp 38)]),
 Dd 6 (.mv (.tmp 39))]
def F.teach_Differ.r4 : List DOp := [
 Dd 40 (.mkmap),
 Dd 41 (.faddr 0 (.tmp 2)),
 Dd 42 (.load 1 false (.tmp 41)),
 Dd 43 (.faddr 0 (.tmp 3)),
 Dd 44 (.load 1 false (.tmp 43)),
 Dd 45 (.build [.int .i64 0, .int .i64 0] [(0, 1, .tmp 42), (1, 1, .tmp 44)]),
 De (.mset (.ints 2) (.tmp 40) (.tmp 45) (.const (.bool true))),
 Dd 46 (.mv (.tmp 40)),
 Dd 7 (.mv (.tmp 46))]
def F.teach_Differ.r5 : List DOp := [
 Dd 8 (.mv (.const (.int .i64 0)))]
def F.teach_Differ.r6 : List DOp := [
 Dd 47 (.mv (.tmp 8)),
 Dd 48 (.mv (.tmp 6)),
 Dd 49 (.len (.tmp 48)),
 Dd 50 (.bin .lss (.tmp 47) (.tmp 49))]
def F.teach_Differ.r8 : List DOp := [
 Dd 53 (.mv (.tmp 6)),
 Dd 54 (.mv (.tmp 8)),
 Dd 55 (.idxs 4 (.tmp 53) (.tmp 54)),
 Dd 56 (.load 4 true (.tmp 55)),
 Dd 9 (.alloc [.int .i64 0, .int .i64 0, .int .i64 0, .int .i64 0]),
 De (.store 4 (.tmp 9) (.tmp 56))]
def F.teach_Differ.r9 : List DOp := [
 Dd 57 (.faddr 0 (.tmp 9)),
 Dd 58 (.load 1 false (.tmp 57)),
 Dd 59 (.bin .geq (.tmp 58) (.const (.int .i64 0))),
 Dd 60 (.mv (.tmp 59)),
 ⟨some 61, .faddr 1 (.tmp 2), (some (60, true)), []⟩,
 ⟨some 62, .load 1 false (.tmp 61), (some (60, true)), []⟩,
 ⟨some 63, .faddr 0 (.tmp 9), (some (60, true)), []⟩,
 ⟨some 64, .load 1 false (.tmp 63), (some (60, true)), []⟩,
 ⟨some 65, .idxs 1 (.tmp 62) (.tmp 64), (some (60, true)), []⟩,
 ⟨some 66, .load 1 false (.tmp 65), (some (60, true)), []⟩,
 ⟨some 67, .bin .geq (.tmp 66) (.const (.int .i64 0)), (some (60, true)), []⟩,
 Dd 68 (.pick (.tmp 60) (.tmp 67) (.const (.bool false))),
 Dd 69 (.faddr 1 (.tmp 9)),
 Dd 70 (.load 1 false (.tmp 69)),
 Dd 71 (.bin .geq (.tmp 70) (.const (.int .i64 0))),
 Dd 72 (.mv (.tmp 71)),
 ⟨some 73, .faddr 1 (.tmp 3), (some (72, true)), []⟩,
 ⟨some 74, .load 1 false (.tmp 73), (some (72, true)), []⟩,
 ⟨some 75, .faddr 1 (.tmp 9), (some (72, true)), []⟩,
 ⟨some 76, .load 1 false (.tmp 75), (some (72, true)), []⟩,
 ⟨some 77, .idxs 1 (.tmp 74) (.tmp 76), (some (72, true)), []⟩,
 ⟨some 78, .load 1 false (.tmp 77), (some (72, true)), []⟩,
 ⟨some 79, .bin .geq (.tmp 78) (.const (.int .i64 0)), (some (72, true)), []⟩,
 Dd 80 (.pick (.tmp 72) (.tmp 79) (.const (.bool false))),
 Dd 81 (.eq true .bool (.tmp 68) (.tmp 80))]
def F.teach_Differ.r10 : List DOp := [
 Dd 82 (.mv (.tmp 6)),
 Dd 83 (.mv (.tmp 8)),
 Dd 84 (.call I.teach_way [.tmp 82, .tmp 83]),
 Dd 4 (.mv (.tmp 84)),
 Dd 5 (.mv (.const (.bool true)))]
def F.teach_Differ.r11 : List DOp := [
 Dd 85 (.faddr 2 (.tmp 2)),
 Dd 86 (.load 1 false (.tmp 85)),
 Dd 87 (.idxs 1 (.tmp 86) (.const (.int .i64 0))),
 Dd 88 (.load 1 false (.tmp 87)),
 Dd 89 (.len (.tmp 88)),
 Dd 90 (.mv (.const (.int .i64 0)))]
def F.teach_Differ.r12 : List DOp := [
 Dd 91 (.bin .lss (.tmp 90) (.tmp 89))]
def F.teach_Differ.r13 : List DOp := [
 Dd 92 (.mv (.tmp 90)),
 Dd 10 (.mv (.tmp 92))]
def F.teach_Differ.r14 : List DOp := [
 Dd 93 (.load 3 true (.tmp 2)),
 Dd 94 (.faddr 0 (.tmp 9)),
 Dd 95 (.load 1 false (.tmp 94)),
 Dd 96 (.mv (.tmp 10)),
 Dd 97 (.call I.teach_step [.tmp 93, .tmp 95, .tmp 96]),
 Dd 98 (.load 3 true (.tmp 3)),
 Dd 99 (.faddr 1 (.tmp 9)),
 Dd 100 (.load 1 false (.tmp 99)),
 Dd 101 (.mv (.tmp 10)),
 Dd 102 (.call I.teach_step [.tmp 98, .tmp 100, .tmp 101]),
 Dd 103 (.mv (.tmp 8)),
 Dd 104 (.mv (.tmp 10)),
 Dd 105 (.build [.int .i64 0, .int .i64 0, .int .i64 0, .int .i64 0] [(0, 1, .tmp 97), (1, 1, .tmp 102), (2, 1, .tmp 103), (3, 1, .tmp 104)]),
 Dd 11 (.alloc [.int .i64 0, .int .i64 0, .int .i64 0, .int .i64 0]),
 De (.store 4 (.tmp 11) (.tmp 105))]
def F.teach_Differ.r15 : List DOp := [
 Dd 106 (.faddr 0 (.tmp 11)),
 Dd 107 (.load 1 false (.tmp 106)),
 Dd 108 (.faddr 1 (.tmp 11)),
 Dd 109 (.load 1 false (.tmp 108)),
 Dd 110 (.build [.int .i64 0, .int .i64 0] [(0, 1, .tmp 107), (1, 1, .tmp 109)]),
 Dd 12 (.alloc [.int .i64 0, .int .i64 0]),
 De (.store 2 (.tmp 12) (.tmp 110))]
def F.teach_Differ.r16 : List DOp := [
 Dd 111 (.mv (.tmp 7)),
 Dd 112 (.load 2 true (.tmp 12)),
 Dd 113 (.mlook (.ints 2) (.bool false) false (.tmp 111) (.tmp 112)),
 Dd 114 (.un .not (.tmp 113))]
def F.teach_Differ.r17 : List DOp := [
 Dd 115 (.mv (.tmp 7)),
 Dd 116 (.load 2 true (.tmp 12)),
 De (.mset (.ints 2) (.tmp 115) (.tmp 116) (.const (.bool true)))]
def F.teach_Differ.r18 : List DOp := [
 Dd 117 (.mv (.tmp 6)),
 Dd 118 (.load 4 true (.tmp 11)),
 Dd 119 (.bslice 4 1 [.int .i64 0, .int .i64 0, .int .i64 0, .int .i64 0] [(0, 4, .tmp 118)]),
 Dd 120 (.append 4 32 (.tmp 117) (.tmp 119)),
 Dd 6 (.mv (.tmp 120))]
def F.teach_Differ.r19 : List DOp := [
 Dd 121 (.bin .add (.tmp 90) (.const (.int .i64 1))),
 Dd 90 (.mv (.tmp 121))]
def F.teach_Differ.L1 : ACode := .seq (.region F.teach_Differ.r12) (.seq (.cond (.tmp 91) (.skip) (.exit 2)) (.seq (.block 3 (.seq (.region F.teach_Differ.r13) (.seq (.draw F.teach_Differ.r14 [(5, 4), (7, 4)]) (.seq (.region F.teach_Differ.r15) (.seq (.region F.teach_Differ.r16) (.cond (.tmp 114) (.seq (.region F.teach_Differ.r17) (.region F.teach_Differ.r18)) (.skip))))))) (.region F.teach_Differ.r19)))
def F.teach_Differ.r7 : List DOp := [
 Dd 51 (.mv (.tmp 8)),
 Dd 52 (.bin .add (.tmp 51) (.const (.int .i64 1))),
 Dd 8 (.mv (.tmp 52))]
def F.teach_Differ.L0 : ACode := .seq (.seq (.region F.teach_Differ.r6) (.cond (.tmp 50) (.skip) (.exit 0))) (.seq (.block 1 (.seq (.region F.teach_Differ.r8) (.seq (.seq (.draw F.teach_Differ.r9 []) (.cond (.tmp 81) (.seq (.region F.teach_Differ.r10) (.ret)) (.skip))) (.seq (.region F.teach_Differ.r11) (.block 2 (.loop F.teach_Differ.L1)))))) (.region F.teach_Differ.r7))
def F.teach_Differ.r20 : List DOp := [
 Dd 4 (.mv (.const (.slice none 0 0))),
 Dd 5 (.mv (.const (.bool false)))]
def F.teach_Differ.c : ACode := .seq (.region F.teach_Differ.r0) (.seq (.seq (.draw F.teach_Differ.r1 []) (.cond (.tmp 33) (.seq (.region F.teach_Differ.r2) (.ret)) (.skip))) (.seq (.region F.teach_Differ.r3) (.seq (.region F.teach_Differ.r4) (.seq (.seq (.region F.teach_Differ.r5) (.block 0 (.loop F.teach_Differ.L0))) (.seq (.region F.teach_Differ.r20) (.ret))))))
def F.teach_Differ : AFunc := ⟨F.teach_Differ.c, [.tmp 4, .tmp 5]⟩
/-! parlance/teach.way -/
def F.teach_way.r0 : List DOp := [
 Dd 4 (.mv (.const (.slice none 0 0)))]
def F.teach_way.r1 : List DOp := [
 Dd 5 (.mv (.tmp 0)),
 Dd 6 (.mv (.tmp 1)),
 Dd 7 (.idxs 4 (.tmp 5) (.tmp 6)),
 Dd 8 (.faddr 2 (.tmp 7)),
 Dd 9 (.load 1 false (.tmp 8)),
 Dd 10 (.bin .lss (.tmp 9) (.const (.int .i64 0)))]
def F.teach_way.r2 : List DOp := [
 Dd 4 (.mv (.const (.slice none 0 0)))]
def F.teach_way.r3 : List DOp := [
 Dd 11 (.mv (.tmp 0)),
 Dd 12 (.mv (.tmp 0)),
 Dd 13 (.mv (.tmp 1)),
 Dd 14 (.idxs 4 (.tmp 12) (.tmp 13)),
 Dd 15 (.faddr 2 (.tmp 14)),
 Dd 16 (.load 1 false (.tmp 15)),
 Dd 17 (.call I.teach_way [.tmp 11, .tmp 16]),
 Dd 18 (.mv (.tmp 0)),
 Dd 19 (.mv (.tmp 1)),
 Dd 20 (.idxs 4 (.tmp 18) (.tmp 19)),
 Dd 21 (.faddr 3 (.tmp 20)),
 Dd 22 (.load 1 false (.tmp 21)),
 Dd 23 (.bslice 1 1 [.int .i64 0] [(0, 1, .tmp 22)]),
 Dd 24 (.append 1 8 (.tmp 17) (.tmp 23)),
 Dd 4 (.mv (.tmp 24))]
def F.teach_way.c : ACode := .seq (.region F.teach_way.r0) (.seq (.seq (.region F.teach_way.r1) (.cond (.tmp 10) (.seq (.region F.teach_way.r2) (.ret)) (.skip))) (.seq (.draw F.teach_way.r3 [(11, 6)]) (.ret)))
def F.teach_way : AFunc := ⟨F.teach_way.c, [.tmp 4]⟩
/-! parlance/teach.step -/
def F.teach_step.r0 : List DOp := [
 Dd 3 (.box (.tmp 0)),
 Dd 6 (.mv (.const (.int .i64 0)))]
def F.teach_step.r1 : List DOp := [
 Dd 7 (.mv (.tmp 1)),
 Dd 8 (.bin .lss (.tmp 7) (.const (.int .i64 0)))]
def F.teach_step.r2 : List DOp := [
 Dd 6 (.mv (.const (.int .i64 (-1))))]
def F.teach_step.r3 : List DOp := [
 Dd 9 (.faddr 2 (.tmp 3)),
 Dd 10 (.load 1 false (.tmp 9)),
 Dd 11 (.mv (.tmp 1)),
 Dd 12 (.idxs 1 (.tmp 10) (.tmp 11)),
 Dd 13 (.load 1 false (.tmp 12)),
 Dd 14 (.mv (.tmp 2)),
 Dd 15 (.idxs 1 (.tmp 13) (.tmp 14)),
 Dd 16 (.load 1 false (.tmp 15)),
 Dd 6 (.mv (.tmp 16))]
def F.teach_step.c : ACode := .seq (.region F.teach_step.r0) (.seq (.seq (.region F.teach_step.r1) (.cond (.tmp 8) (.seq (.region F.teach_step.r2) (.ret)) (.skip))) (.seq (.region F.teach_step.r3) (.ret)))
def F.teach_step : AFunc := ⟨F.teach_step.c, [.tmp 6]⟩
end Go.Proofs.Ytmlnknngpdnepaa
