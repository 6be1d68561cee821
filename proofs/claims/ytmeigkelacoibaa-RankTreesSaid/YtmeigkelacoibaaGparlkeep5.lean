import Derived.Test.YtmeigkelacoibaaI
namespace Go.Proofs.Ytmeigkelacoibaa
open Go Go.Ab
def F.A7.r0 : List DOp := [
 Dd 6 (.mv (.const (.bool false)))]
def F.A7.r1 : List DOp := [
 Dd 20 (.mv (.tmp 0)),
 Dd 21 (.call I.B9 [.tmp 20]),
 Dd 7 (.alloc [.int .i64 0, .int .i64 0, .int .i64 0, .slice none 0 0]),
 De (.store 4 (.tmp 7) (.tmp 21))]
def F.A7.r2 : List DOp := [
 Dd 22 (.mv (.tmp 2)),
 Dd 23 (.call I.F3 [.tmp 22, .const (.int .i64 6)]),
 Dd 2 (.mv (.tmp 23))]
def F.A7.r3 : List DOp := [
 Dd 25 (.call I.F4 []),
 Dd 26 (.call I.G0 [.tmp 25, .const (.int .i64 3)]),
 Dd 24 (.mv (.tmp 26)),
 Dd 27 (.extract (.tmp 24) 0),
 Dd 28 (.extract (.tmp 24) 1),
 Dd 8 (.mv (.tmp 27)),
 Dd 9 (.mv (.tmp 28))]
def F.A7.r4 : List DOp := [
 Dd 29 (.mv (.tmp 8)),
 Dd 30 (.bin .neq (.tmp 29) (.const (.int .i64 1))),
 Dd 31 (.mv (.tmp 30)),
 ⟨some 32, .mv (.tmp 9), (some (31, false)), []⟩,
 ⟨some 33, .bin .neq (.tmp 32) (.const (.int .i64 0)), (some (31, false)), []⟩,
 Dd 34 (.pick (.tmp 31) (.const (.bool true)) (.tmp 33))]
def F.A7.r5 : List DOp := [
 Dd 6 (.mv (.const (.bool false)))]
def F.A7.r6 : List DOp := [
 Dd 36 (.load 4 true (.tmp 7)),
 Dd 37 (.mv (.tmp 2)),
 Dd 38 (.call I.G0 [.tmp 36, .tmp 37]),
 Dd 35 (.mv (.tmp 38)),
 Dd 39 (.extract (.tmp 35) 0),
 Dd 40 (.extract (.tmp 35) 1),
 Dd 10 (.mv (.tmp 39)),
 Dd 11 (.mv (.tmp 40))]
def F.A7.r7 : List DOp := [
 Dd 41 (.mv (.tmp 11)),
 Dd 42 (.bin .neq (.tmp 41) (.const (.int .i64 0))),
 Dd 43 (.mv (.tmp 42)),
 ⟨some 44, .mv (.tmp 10), (some (43, false)), []⟩,
 ⟨some 45, .bin .gtr (.tmp 44) (.const (.int .i64 60)), (some (43, false)), []⟩,
 Dd 46 (.pick (.tmp 43) (.const (.bool true)) (.tmp 45))]
def F.A7.r8 : List DOp := [
 Dd 6 (.mv (.const (.bool true)))]
def F.A7.r9 : List DOp := [
 Dd 12 (.mv (.const (.slice none 0 0)))]
def F.A7.r10 : List DOp := [
 Dd 47 (.mv (.tmp 10)),
 Dd 48 (.mv (.const (.int .i64 0)))]
def F.A7.r11 : List DOp := [
 Dd 49 (.bin .lss (.tmp 48) (.tmp 47))]
def F.A7.r12 : List DOp := [
 Dd 50 (.mv (.tmp 48)),
 Dd 13 (.mv (.tmp 50))]
def F.A7.r13 : List DOp := [
 Dd 52 (.load 4 true (.tmp 7)),
 Dd 53 (.mv (.tmp 2)),
 Dd 54 (.mv (.tmp 13)),
 Dd 55 (.call I.G1 [.tmp 52, .tmp 53, .tmp 54]),
 Dd 51 (.mv (.tmp 55)),
 Dd 56 (.extract (.tmp 51) 0),
 Dd 57 (.extract (.tmp 51) 1),
 Dd 14 (.alloc [.int .i64 0, .int .i64 0, .slice none 0 0]),
 De (.store 3 (.tmp 14) (.tmp 56)),
 Dd 15 (.mv (.tmp 57))]
def F.A7.r14 : List DOp := [
 Dd 58 (.mv (.tmp 15)),
 Dd 59 (.bin .neq (.tmp 58) (.const (.int .i64 0))),
 Dd 60 (.mv (.tmp 59)),
 ⟨some 61, .load 4 true (.tmp 7), (some (60, false)), []⟩,
 ⟨some 62, .load 3 true (.tmp 14), (some (60, false)), []⟩,
 ⟨some 63, .call I.F2 [.tmp 61, .tmp 62], (some (60, false)), []⟩,
 ⟨some 64, .bin .neq (.tmp 63) (.const (.int .i64 0)), (some (60, false)), []⟩,
 Dd 65 (.pick (.tmp 60) (.const (.bool true)) (.tmp 64)),
 Dd 66 (.mv (.tmp 65)),
 ⟨some 67, .load 3 true (.tmp 14), (some (66, false)), []⟩,
 ⟨some 68, .call I.F9 [.tmp 67], (some (66, false)), []⟩,
 ⟨some 69, .len (.tmp 68), (some (66, false)), []⟩,
 ⟨some 70, .mv (.tmp 2), (some (66, false)), []⟩,
 ⟨some 71, .bin .neq (.tmp 69) (.tmp 70), (some (66, false)), []⟩,
 Dd 72 (.pick (.tmp 66) (.const (.bool true)) (.tmp 71))]
def F.A7.r15 : List DOp := [
 Dd 6 (.mv (.const (.bool false)))]
def F.A7.r16 : List DOp := [
 Dd 73 (.mv (.tmp 12)),
 Dd 74 (.len (.tmp 73)),
 Dd 75 (.mv (.const (.int .i64 0)))]
def F.A7.r17 : List DOp := [
 Dd 76 (.bin .lss (.tmp 75) (.tmp 74))]
def F.A7.r18 : List DOp := [
 Dd 77 (.idxs 3 (.tmp 73) (.tmp 75)),
 Dd 78 (.load 3 true (.tmp 77)),
 Dd 17 (.alloc [.int .i64 0, .int .i64 0, .slice none 0 0]),
 De (.store 3 (.tmp 17) (.tmp 78))]
def F.A7.r19 : List DOp := [
 Dd 79 (.load 3 true (.tmp 17)),
 Dd 80 (.load 3 true (.tmp 14)),
 Dd 81 (.call I.E5 [.tmp 79, .tmp 80]),
 Dd 82 (.bin .eql (.tmp 81) (.const (.int .i64 0)))]
def F.A7.r20 : List DOp := [
 Dd 6 (.mv (.const (.bool false)))]
def F.A7.r21 : List DOp := [
 Dd 83 (.bin .add (.tmp 75) (.const (.int .i64 1))),
 Dd 75 (.mv (.tmp 83))]
def F.A7.L1 : ACode := .seq (.region F.A7.r17) (.seq (.cond (.tmp 76) (.skip) (.exit 2)) (.seq (.block 3 (.seq (.region F.A7.r18) (.seq (.region F.A7.r19) (.cond (.tmp 82) (.seq (.region F.A7.r20) (.ret)) (.skip))))) (.region F.A7.r21)))
def F.A7.r22 : List DOp := [
 Dd 84 (.mv (.tmp 12)),
 Dd 85 (.load 3 true (.tmp 14)),
 Dd 86 (.bslice 3 1 [.int .i64 0, .int .i64 0, .slice none 0 0] [(0, 3, .tmp 85)]),
 Dd 87 (.append 3 40 (.tmp 84) (.tmp 86)),
 Dd 12 (.mv (.tmp 87))]
def F.A7.r23 : List DOp := [
 Dd 88 (.bin .add (.tmp 48) (.const (.int .i64 1))),
 Dd 48 (.mv (.tmp 88))]
def F.A7.L0 : ACode := .seq (.region F.A7.r11) (.seq (.cond (.tmp 49) (.skip) (.exit 0)) (.seq (.block 1 (.seq (.region F.A7.r12) (.seq (.region F.A7.r13) (.seq (.seq (.region F.A7.r14) (.cond (.tmp 72) (.seq (.region F.A7.r15) (.ret)) (.skip))) (.seq (.seq (.region F.A7.r16) (.block 2 (.loop F.A7.L1))) (.region F.A7.r22)))))) (.region F.A7.r23)))
def F.A7.r24 : List DOp := [
 Dd 90 (.load 4 true (.tmp 7)),
 Dd 91 (.mv (.tmp 1)),
 Dd 92 (.call I.F8 [.tmp 90, .tmp 91]),
 Dd 89 (.mv (.tmp 92)),
 Dd 93 (.extract (.tmp 89) 0),
 Dd 94 (.extract (.tmp 89) 1),
 Dd 18 (.alloc [.int .i64 0, .int .i64 0, .slice none 0 0]),
 De (.store 3 (.tmp 18) (.tmp 93)),
 Dd 19 (.mv (.tmp 94))]
def F.A7.r25 : List DOp := [
 Dd 95 (.mv (.tmp 19)),
 Dd 96 (.un .not (.tmp 95)),
 Dd 97 (.mv (.tmp 96)),
 ⟨some 98, .load 3 true (.tmp 18), (some (97, false)), []⟩,
 ⟨some 99, .call I.F9 [.tmp 98], (some (97, false)), []⟩,
 ⟨some 100, .len (.tmp 99), (some (97, false)), []⟩,
 ⟨some 101, .mv (.tmp 2), (some (97, false)), []⟩,
 ⟨some 102, .bin .neq (.tmp 100) (.tmp 101), (some (97, false)), []⟩,
 Dd 103 (.pick (.tmp 97) (.const (.bool true)) (.tmp 102)),
 Dd 104 (.mv (.tmp 103)),
 ⟨some 105, .mv (.tmp 12), (some (104, false)), []⟩,
 ⟨some 106, .mkfn (.func I.D6) [.tmp 18], (some (104, false)), []⟩,
 ⟨some 107, .call I.E2 [.tmp 105, .tmp 106], (some (104, false)), []⟩,
 Dd 108 (.pick (.tmp 104) (.const (.bool true)) (.tmp 107)),
 Dd 6 (.mv (.tmp 108))]
def F.A7.c : ACode := .seq (.region F.A7.r0) (.seq (.region F.A7.r1) (.seq (.region F.A7.r2) (.seq (.seq (.region F.A7.r3) (.seq (.region F.A7.r4) (.cond (.tmp 34) (.seq (.region F.A7.r5) (.ret)) (.skip)))) (.seq (.region F.A7.r6) (.seq (.seq (.region F.A7.r7) (.cond (.tmp 46) (.seq (.region F.A7.r8) (.ret)) (.skip))) (.seq (.region F.A7.r9) (.seq (.seq (.region F.A7.r10) (.block 0 (.loop F.A7.L0))) (.seq (.region F.A7.r24) (.seq (.region F.A7.r25) (.ret))))))))))
def F.A7 : AFunc := ⟨F.A7.c, [.tmp 6]⟩
def F.F3.r0 : List DOp := [
 Dd 4 (.mv (.const (.int .i64 0)))]
def F.F3.r1 : List DOp := [
 Dd 5 (.mv (.tmp 0)),
 Dd 6 (.mv (.tmp 1)),
 Dd 7 (.call I.E3 [.tmp 5, .tmp 6]),
 Dd 4 (.mv (.tmp 7))]
def F.F3.c : ACode := .seq (.region F.F3.r0) (.seq (.region F.F3.r1) (.ret))
def F.F3 : AFunc := ⟨F.F3.c, [.tmp 4]⟩
def F.F4.r0 : List DOp := [
 Dd 0 (.alloc [.int .i64 0, .int .i64 0, .int .i64 0, .slice none 0 0])]
def F.F4.r1 : List DOp := [
 Dd 1 (.build [.bool false, .int .i64 0] [(0, 1, .const (.bool true))]),
 Dd 2 (.bslice 2 1 [.bool false, .int .i64 0] [(0, 2, .tmp 1)]),
 Dd 3 (.build [.int .i64 0, .slice none 0 0] [(1, 1, .tmp 2)]),
 Dd 4 (.build [.bool false, .int .i64 0] [(0, 1, .const (.bool true)), (1, 1, .const (.int .i64 1))]),
 Dd 5 (.build [.bool false, .int .i64 0] []),
 Dd 6 (.bslice 2 2 [.bool false, .int .i64 0, .bool false, .int .i64 0] [(0, 2, .tmp 4), (2, 2, .tmp 5)]),
 Dd 7 (.build [.int .i64 0, .slice none 0 0] [(1, 1, .tmp 6)]),
 Dd 8 (.bslice 2 2 [.int .i64 0, .slice none 0 0, .int .i64 0, .slice none 0 0] [(0, 2, .tmp 3), (2, 2, .tmp 7)]),
 Dd 9 (.build [.int .i64 0, .int .i64 0, .int .i64 0, .slice none 0 0] [(0, 1, .const (.int .i64 2)), (1, 1, .const (.int .i64 1)), (3, 1, .tmp 8)]),
 De (.store 4 (.tmp 0) (.tmp 9))]
def F.F4.c : ACode := .seq (.region F.F4.r0) (.seq (.region F.F4.r1) (.ret))
def F.F4 : AFunc := ⟨F.F4.c, [.cell 0 4 true]⟩
def F.D6.r0 : List DOp := [
 Dd 2 (.box (.tmp 0)),
 Dd 3 (.mv (.const (.bool false)))]
def F.D6.r1 : List DOp := [
 Dd 4 (.load 3 true (.tmp 2)),
 Dd 5 (.load 3 true (.tmp 1)),
 Dd 6 (.call I.E5 [.tmp 4, .tmp 5]),
 Dd 7 (.bin .eql (.tmp 6) (.const (.int .i64 0))),
 Dd 3 (.mv (.tmp 7))]
def F.D6.c : ACode := .seq (.region F.D6.r0) (.seq (.region F.D6.r1) (.ret))
def F.D6 : AFunc := ⟨F.D6.c, [.tmp 3]⟩
end Go.Proofs.Ytmeigkelacoibaa
