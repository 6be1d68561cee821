import Derived.Test.YtmeigkelacoibaaI
namespace Go.Proofs.Ytmeigkelacoibaa
open Go Go.Ab
def F.C6.r0 : List DOp := [
 Dd 2 (.box (.tmp 0)),
 Dd 4 (.mv (.const (.slice none 0 0))),
 Dd 5 (.mv (.const (.int .i64 0)))]
def F.C6.r1 : List DOp := [
 Dd 11 (.load 4 true (.tmp 2)),
 Dd 12 (.call I.C4 [.tmp 11]),
 Dd 6 (.mv (.tmp 12))]
def F.C6.r2 : List DOp := [
 Dd 13 (.mv (.tmp 6)),
 Dd 14 (.bin .neq (.tmp 13) (.const (.int .i64 0)))]
def F.C6.r3 : List DOp := [
 Dd 15 (.mv (.tmp 6)),
 Dd 4 (.mv (.const (.slice none 0 0))),
 Dd 5 (.mv (.tmp 15))]
def F.C6.r4 : List DOp := [
 Dd 16 (.mv (.tmp 1)),
 Dd 17 (.bin .lss (.tmp 16) (.const (.int .i64 0))),
 Dd 18 (.mv (.tmp 17)),
 ⟨some 19, .mv (.tmp 1), (some (18, false)), []⟩,
 ⟨some 20, .bin .gtr (.tmp 19) (.const (.int .i64 24)), (some (18, false)), []⟩,
 Dd 21 (.pick (.tmp 18) (.const (.bool true)) (.tmp 20))]
def F.C6.r5 : List DOp := [
 Dd 4 (.mv (.const (.slice none 0 0))),
 Dd 5 (.mv (.const (.int .i64 1)))]
def F.C6.r6 : List DOp := [
 Dd 22 (.load 4 true (.tmp 2)),
 Dd 23 (.mv (.tmp 1)),
 Dd 24 (.call I.D5 [.tmp 22, .tmp 23]),
 Dd 7 (.mv (.tmp 24))]
def F.C6.r7 : List DOp := [
 Dd 25 (.mv (.tmp 7)),
 Dd 26 (.call I.B4 [.tmp 25])]
def F.C6.r8 : List DOp := [
 Dd 27 (.mv (.tmp 7)),
 Dd 28 (.call I.A1 [.tmp 27])]
def F.C6.r9 : List DOp := [
 Dd 29 (.faddr 1 (.tmp 2)),
 Dd 30 (.load 1 false (.tmp 29)),
 Dd 31 (.mkslice 1 24 [.slice none 0 0] (.tmp 30) (.tmp 30)),
 Dd 8 (.mv (.tmp 31))]
def F.C6.r10 : List DOp := [
 Dd 32 (.mv (.tmp 8)),
 Dd 33 (.len (.tmp 32)),
 Dd 34 (.mv (.const (.int .i64 0)))]
def F.C6.r11 : List DOp := [
 Dd 35 (.bin .lss (.tmp 34) (.tmp 33))]
def F.C6.r12 : List DOp := [
 Dd 36 (.mv (.tmp 34)),
 Dd 9 (.mv (.tmp 36))]
def F.C6.r13 : List DOp := [
 Dd 37 (.mv (.tmp 1)),
 Dd 38 (.bin .add (.tmp 37) (.const (.int .i64 1))),
 Dd 39 (.mv (.const (.int .i64 0)))]
def F.C6.r14 : List DOp := [
 Dd 40 (.bin .lss (.tmp 39) (.tmp 38))]
def F.C6.r15 : List DOp := [
 Dd 41 (.mv (.tmp 39)),
 Dd 10 (.mv (.tmp 41))]
def F.C6.r16 : List DOp := [
 Dd 42 (.mv (.tmp 8)),
 Dd 43 (.mv (.tmp 9)),
 Dd 44 (.mv (.tmp 8)),
 Dd 45 (.mv (.tmp 9)),
 Dd 46 (.idxs 1 (.tmp 44) (.tmp 45)),
 Dd 47 (.load 1 false (.tmp 46)),
 Dd 48 (.mv (.tmp 7)),
 Dd 49 (.mv (.tmp 9)),
 Dd 50 (.mv (.tmp 10)),
 Dd 51 (.call I.B1 [.tmp 48, .tmp 49, .tmp 50]),
 Dd 52 (.bslice 1 1 [.int .i64 0] [(0, 1, .tmp 51)]),
 Dd 53 (.append 1 8 (.tmp 47) (.tmp 52)),
 Dd 54 (.idxs 1 (.tmp 42) (.tmp 43)),
 De (.store 1 (.tmp 54) (.tmp 53))]
def F.C6.r17 : List DOp := [
 Dd 55 (.bin .add (.tmp 39) (.const (.int .i64 1))),
 Dd 39 (.mv (.tmp 55))]
def F.C6.L1 : ACode := .seq (.region F.C6.r14) (.seq (.cond (.tmp 40) (.skip) (.exit 2)) (.seq (.block 3 (.seq (.region F.C6.r15) (.draw F.C6.r16 [(5, 9)]))) (.region F.C6.r17)))
def F.C6.r18 : List DOp := [
 Dd 56 (.bin .add (.tmp 34) (.const (.int .i64 1))),
 Dd 34 (.mv (.tmp 56))]
def F.C6.L0 : ACode := .seq (.region F.C6.r11) (.seq (.cond (.tmp 35) (.skip) (.exit 0)) (.seq (.block 1 (.seq (.region F.C6.r12) (.seq (.region F.C6.r13) (.block 2 (.loop F.C6.L1))))) (.region F.C6.r18)))
def F.C6.r19 : List DOp := [
 Dd 57 (.mv (.tmp 8)),
 Dd 4 (.mv (.tmp 57)),
 Dd 5 (.mv (.const (.int .i64 0)))]
def F.C6.c : ACode := .seq (.region F.C6.r0) (.seq (.seq (.region F.C6.r1) (.seq (.region F.C6.r2) (.cond (.tmp 14) (.seq (.region F.C6.r3) (.ret)) (.skip)))) (.seq (.seq (.region F.C6.r4) (.cond (.tmp 21) (.seq (.region F.C6.r5) (.ret)) (.skip))) (.seq (.region F.C6.r6) (.seq (.region F.C6.r7) (.seq (.region F.C6.r8) (.seq (.region F.C6.r9) (.seq (.seq (.region F.C6.r10) (.block 0 (.loop F.C6.L0))) (.seq (.region F.C6.r19) (.ret)))))))))
def F.C6 : AFunc := ⟨F.C6.c, [.tmp 4, .tmp 5]⟩
def F.D5.r0 : List DOp := [
 Dd 2 (.box (.tmp 0)),
 Dd 4 (.mv (.const (.pointer none)))]
def F.D5.r1 : List DOp := [
 Dd 8 (.load 4 true (.tmp 2)),
 Dd 9 (.mv (.tmp 1)),
 Dd 10 (.faddr 1 (.tmp 2)),
 Dd 11 (.load 1 false (.tmp 10)),
 Dd 12 (.mv (.tmp 1)),
 Dd 13 (.bin .add (.tmp 12) (.const (.int .i64 1))),
 Dd 14 (.call I.B5 [.tmp 11, .tmp 13, .const (.bool false)]),
 Dd 15 (.faddr 1 (.tmp 2)),
 Dd 16 (.load 1 false (.tmp 15)),
 Dd 17 (.mv (.tmp 1)),
 Dd 18 (.bin .add (.tmp 17) (.const (.int .i64 1))),
 Dd 19 (.call I.B5 [.tmp 16, .tmp 18, .const (.bool false)]),
 Dd 20 (.faddr 1 (.tmp 2)),
 Dd 21 (.load 1 false (.tmp 20)),
 Dd 22 (.mv (.tmp 1)),
 Dd 23 (.bin .add (.tmp 22) (.const (.int .i64 1))),
 Dd 24 (.call I.C7 [.tmp 21, .tmp 23, .const (.int .i64 (-1))]),
 Dd 25 (.build [.int .i64 0, .int .i64 0, .int .i64 0, .slice none 0 0, .int .i64 0, .slice none 0 0, .slice none 0 0, .slice none 0 0, .slice none 0 0, .slice none 0 0] [(0, 4, .tmp 8), (4, 1, .tmp 9), (5, 1, .tmp 14), (6, 1, .tmp 19), (7, 1, .tmp 24)]),
 Dd 26 (.box (.tmp 25)),
 Dd 5 (.mv (.tmp 26))]
def F.D5.r2 : List DOp := [
 Dd 27 (.faddr 3 (.tmp 2)),
 Dd 28 (.load 1 false (.tmp 27)),
 Dd 29 (.len (.tmp 28)),
 Dd 30 (.mv (.const (.int .i64 0)))]
def F.D5.r3 : List DOp := [
 Dd 31 (.bin .lss (.tmp 30) (.tmp 29))]
def F.D5.r4 : List DOp := [
 Dd 32 (.idxs 2 (.tmp 28) (.tmp 30)),
 Dd 33 (.load 2 true (.tmp 32)),
 Dd 7 (.alloc [.int .i64 0, .slice none 0 0]),
 De (.store 2 (.tmp 7) (.tmp 33))]
def F.D5.r5 : List DOp := [
 Dd 34 (.mv (.tmp 5)),
 Dd 35 (.mv (.tmp 5)),
 Dd 36 (.nilchk (.tmp 35)),
 Dd 37 (.faddr 8 (.tmp 36)),
 Dd 38 (.load 1 false (.tmp 37)),
 Dd 39 (.faddr 1 (.tmp 7)),
 Dd 40 (.load 1 false (.tmp 39)),
 Dd 41 (.len (.tmp 40)),
 Dd 42 (.bin .add (.tmp 41) (.const (.int .i64 1))),
 Dd 43 (.mv (.tmp 1)),
 Dd 44 (.bin .add (.tmp 43) (.const (.int .i64 1))),
 Dd 45 (.call I.B5 [.tmp 42, .tmp 44, .const (.bool false)]),
 Dd 46 (.bslice 1 1 [.slice none 0 0] [(0, 1, .tmp 45)]),
 Dd 47 (.append 1 24 (.tmp 38) (.tmp 46)),
 Dd 48 (.nilchk (.tmp 34)),
 Dd 49 (.faddr 8 (.tmp 48)),
 De (.store 1 (.tmp 49) (.tmp 47))]
def F.D5.r6 : List DOp := [
 Dd 50 (.mv (.tmp 5)),
 Dd 51 (.mv (.tmp 5)),
 Dd 52 (.nilchk (.tmp 51)),
 Dd 53 (.faddr 9 (.tmp 52)),
 Dd 54 (.load 1 false (.tmp 53)),
 Dd 55 (.faddr 1 (.tmp 7)),
 Dd 56 (.load 1 false (.tmp 55)),
 Dd 57 (.len (.tmp 56)),
 Dd 58 (.bin .add (.tmp 57) (.const (.int .i64 1))),
 Dd 59 (.mv (.tmp 1)),
 Dd 60 (.bin .add (.tmp 59) (.const (.int .i64 1))),
 Dd 61 (.call I.C7 [.tmp 58, .tmp 60, .const (.int .i64 (-1))]),
 Dd 62 (.bslice 1 1 [.slice none 0 0] [(0, 1, .tmp 61)]),
 Dd 63 (.append 1 24 (.tmp 54) (.tmp 62)),
 Dd 64 (.nilchk (.tmp 50)),
 Dd 65 (.faddr 9 (.tmp 64)),
 De (.store 1 (.tmp 65) (.tmp 63))]
def F.D5.r7 : List DOp := [
 Dd 66 (.bin .add (.tmp 30) (.const (.int .i64 1))),
 Dd 30 (.mv (.tmp 66))]
def F.D5.L0 : ACode := .seq (.region F.D5.r3) (.seq (.cond (.tmp 31) (.skip) (.exit 0)) (.seq (.block 1 (.seq (.region F.D5.r4) (.seq (.draw F.D5.r5 [(4, 11)]) (.draw F.D5.r6 [(4, 11)])))) (.region F.D5.r7)))
def F.D5.r8 : List DOp := [
 Dd 67 (.mv (.tmp 5)),
 Dd 4 (.mv (.tmp 67))]
def F.D5.c : ACode := .seq (.region F.D5.r0) (.seq (.draw F.D5.r1 [(0, 6), (0, 11), (0, 16), (8, 6), (13, 6), (13, 11)]) (.seq (.seq (.region F.D5.r2) (.block 0 (.loop F.D5.L0))) (.seq (.region F.D5.r8) (.ret))))
def F.D5 : AFunc := ⟨F.D5.c, [.tmp 4]⟩
def F.B4.r0 : List DOp := [
 Dd 2 (.mv (.const (.bool true)))]
def F.B4.r1 : List DOp := [
 Dd 7 (.mv (.tmp 2))]
def F.B4.r2 : List DOp := [
 Dd 2 (.mv (.const (.bool false)))]
def F.B4.r3 : List DOp := [
 Dd 8 (.mv (.tmp 0)),
 Dd 9 (.nilchk (.tmp 8)),
 Dd 10 (.faddr 0 (.tmp 9)),
 Dd 11 (.faddr 3 (.tmp 10)),
 Dd 12 (.load 1 false (.tmp 11)),
 Dd 13 (.len (.tmp 12)),
 Dd 14 (.mv (.const (.int .i64 0)))]
def F.B4.r4 : List DOp := [
 Dd 15 (.bin .lss (.tmp 14) (.tmp 13))]
def F.B4.r5 : List DOp := [
 Dd 16 (.mv (.tmp 14)),
 Dd 17 (.idxs 2 (.tmp 12) (.tmp 14)),
 Dd 18 (.load 2 true (.tmp 17)),
 Dd 4 (.alloc [.int .i64 0, .slice none 0 0]),
 Dd 3 (.mv (.tmp 16)),
 De (.store 2 (.tmp 4) (.tmp 18))]
def F.B4.r6 : List DOp := [
 Dd 19 (.mv (.tmp 0)),
 Dd 20 (.mv (.tmp 3)),
 Dd 21 (.call I.B7 [.tmp 19, .tmp 20])]
def F.B4.r7 : List DOp := [
 Dd 22 (.mv (.tmp 0)),
 Dd 23 (.nilchk (.tmp 22)),
 Dd 24 (.faddr 8 (.tmp 23)),
 Dd 25 (.load 1 false (.tmp 24)),
 Dd 26 (.mv (.tmp 3)),
 Dd 27 (.idxs 1 (.tmp 25) (.tmp 26)),
 Dd 28 (.load 1 false (.tmp 27)),
 Dd 29 (.idxs 1 (.tmp 28) (.const (.int .i64 0))),
 Dd 30 (.load 1 false (.tmp 29)),
 Dd 31 (.len (.tmp 30)),
 Dd 32 (.mv (.const (.int .i64 0)))]
def F.B4.r8 : List DOp := [
 Dd 33 (.bin .lss (.tmp 32) (.tmp 31))]
def F.B4.r9 : List DOp := [
 Dd 34 (.mv (.tmp 32)),
 Dd 35 (.idxs 1 (.tmp 30) (.tmp 32)),
 Dd 36 (.load 1 false (.tmp 35)),
 Dd 5 (.mv (.tmp 34)),
 Dd 6 (.mv (.tmp 36))]
def F.B4.r10 : List DOp := [
 Dd 37 (.mv (.tmp 6)),
 Dd 38 (.mv (.tmp 37)),
 ⟨some 39, .mv (.tmp 0), (some (38, true)), []⟩,
 ⟨some 40, .nilchk (.tmp 39), (some (38, true)), []⟩,
 ⟨some 41, .faddr 5 (.tmp 40), (some (38, true)), []⟩,
 ⟨some 42, .load 1 false (.tmp 41), (some (38, true)), []⟩,
 ⟨some 43, .faddr 0 (.tmp 4), (some (38, true)), []⟩,
 ⟨some 44, .load 1 false (.tmp 43), (some (38, true)), []⟩,
 ⟨some 45, .idxs 1 (.tmp 42) (.tmp 44), (some (38, true)), []⟩,
 ⟨some 46, .load 1 false (.tmp 45), (some (38, true)), []⟩,
 ⟨some 47, .mv (.tmp 5), (some (38, true)), []⟩,
 ⟨some 48, .idxs 1 (.tmp 46) (.tmp 47), (some (38, true)), []⟩,
 ⟨some 49, .load 1 false (.tmp 48), (some (38, true)), []⟩,
 ⟨some 50, .un .not (.tmp 49), (some (38, true)), []⟩,
 Dd 51 (.pick (.tmp 38) (.tmp 50) (.const (.bool false)))]
def F.B4.r11 : List DOp := [
 Dd 52 (.mv (.tmp 0)),
 Dd 53 (.nilchk (.tmp 52)),
 Dd 54 (.faddr 5 (.tmp 53)),
 Dd 55 (.load 1 false (.tmp 54)),
 Dd 56 (.faddr 0 (.tmp 4)),
 Dd 57 (.load 1 false (.tmp 56)),
 Dd 58 (.idxs 1 (.tmp 55) (.tmp 57)),
 Dd 59 (.load 1 false (.tmp 58)),
 Dd 60 (.mv (.tmp 5)),
 Dd 61 (.idxs 1 (.tmp 59) (.tmp 60)),
 De (.store 1 (.tmp 61) (.const (.bool true))),
 Dd 2 (.mv (.const (.bool true)))]
def F.B4.r12 : List DOp := [
 Dd 62 (.bin .add (.tmp 32) (.const (.int .i64 1))),
 Dd 32 (.mv (.tmp 62))]
def F.B4.L2 : ACode := .seq (.region F.B4.r8) (.seq (.cond (.tmp 33) (.skip) (.exit 4)) (.seq (.block 5 (.seq (.region F.B4.r9) (.seq (.draw F.B4.r10 []) (.cond (.tmp 51) (.draw F.B4.r11 []) (.skip))))) (.region F.B4.r12)))
def F.B4.r13 : List DOp := [
 Dd 63 (.bin .add (.tmp 14) (.const (.int .i64 1))),
 Dd 14 (.mv (.tmp 63))]
def F.B4.L1 : ACode := .seq (.region F.B4.r4) (.seq (.cond (.tmp 15) (.skip) (.exit 2)) (.seq (.block 3 (.seq (.region F.B4.r5) (.seq (.region F.B4.r6) (.seq (.region F.B4.r7) (.block 4 (.loop F.B4.L2)))))) (.region F.B4.r13)))
def F.B4.L0 : ACode := .seq (.seq (.region F.B4.r1) (.cond (.tmp 7) (.skip) (.exit 0))) (.block 1 (.seq (.region F.B4.r2) (.seq (.region F.B4.r3) (.block 2 (.loop F.B4.L1)))))
def F.B4.c : ACode := .seq (.region F.B4.r0) (.block 0 (.loop F.B4.L0))
def F.B4 : AFunc := ⟨F.B4.c, []⟩
def F.A1.r0 : List DOp := [
 Dd 12 (.mv (.tmp 0)),
 Dd 13 (.nilchk (.tmp 12)),
 Dd 14 (.faddr 4 (.tmp 13)),
 Dd 15 (.load 1 false (.tmp 14)),
 Dd 16 (.bin .add (.tmp 15) (.const (.int .i64 1))),
 Dd 17 (.mv (.const (.int .i64 0)))]
def F.A1.r1 : List DOp := [
 Dd 18 (.bin .lss (.tmp 17) (.tmp 16))]
def F.A1.r2 : List DOp := [
 Dd 19 (.mv (.tmp 17)),
 Dd 2 (.mv (.tmp 19))]
def F.A1.r3 : List DOp := [
 Dd 20 (.mv (.tmp 0)),
 Dd 21 (.mv (.tmp 2)),
 Dd 22 (.call I.A9 [.tmp 20, .tmp 21]),
 Dd 3 (.mv (.tmp 22))]
def F.A1.r4 : List DOp := [
 Dd 23 (.mv (.tmp 3)),
 Dd 24 (.len (.tmp 23)),
 Dd 25 (.mv (.const (.int .i64 0)))]
def F.A1.r5 : List DOp := [
 Dd 26 (.bin .lss (.tmp 25) (.tmp 24))]
def F.A1.r6 : List DOp := [
 Dd 27 (.mv (.tmp 25)),
 Dd 4 (.mv (.tmp 27))]
def F.A1.r7 : List DOp := [
 Dd 28 (.mv (.tmp 3)),
 Dd 29 (.len (.tmp 28)),
 Dd 30 (.mv (.const (.int .i64 0)))]
def F.A1.r8 : List DOp := [
 Dd 31 (.bin .lss (.tmp 30) (.tmp 29))]
def F.A1.r9 : List DOp := [
 Dd 32 (.mv (.tmp 30)),
 Dd 5 (.mv (.tmp 32))]
def F.A1.r10 : List DOp := [
 Dd 33 (.mv (.tmp 3)),
 Dd 34 (.len (.tmp 33)),
 Dd 35 (.mv (.const (.int .i64 0)))]
def F.A1.r11 : List DOp := [
 Dd 36 (.bin .lss (.tmp 35) (.tmp 34))]
def F.A1.r12 : List DOp := [
 Dd 37 (.mv (.tmp 35)),
 Dd 6 (.mv (.tmp 37))]
def F.A1.r13 : List DOp := [
 Dd 38 (.mv (.tmp 3)),
 Dd 39 (.mv (.tmp 5)),
 Dd 40 (.idxs 1 (.tmp 38) (.tmp 39)),
 Dd 41 (.load 1 false (.tmp 40)),
 Dd 42 (.mv (.tmp 6)),
 Dd 43 (.mv (.tmp 3)),
 Dd 44 (.mv (.tmp 5)),
 Dd 45 (.idxs 1 (.tmp 43) (.tmp 44)),
 Dd 46 (.load 1 false (.tmp 45)),
 Dd 47 (.mv (.tmp 6)),
 Dd 48 (.idxs 1 (.tmp 46) (.tmp 47)),
 Dd 49 (.load 1 false (.tmp 48)),
 Dd 50 (.mv (.tmp 49)),
 ⟨some 51, .mv (.tmp 3), (some (50, false)), []⟩,
 ⟨some 52, .mv (.tmp 5), (some (50, false)), []⟩,
 ⟨some 53, .idxs 1 (.tmp 51) (.tmp 52), (some (50, false)), []⟩,
 ⟨some 54, .load 1 false (.tmp 53), (some (50, false)), []⟩,
 ⟨some 55, .mv (.tmp 4), (some (50, false)), []⟩,
 ⟨some 56, .idxs 1 (.tmp 54) (.tmp 55), (some (50, false)), []⟩,
 ⟨some 57, .load 1 false (.tmp 56), (some (50, false)), []⟩,
 ⟨some 58, .mv (.tmp 57), (some (50, false)), []⟩,
 ⟨some 59, .mv (.tmp 3), (some (58, true)), []⟩,
 ⟨some 60, .mv (.tmp 4), (some (58, true)), []⟩,
 ⟨some 61, .idxs 1 (.tmp 59) (.tmp 60), (some (58, true)), []⟩,
 ⟨some 62, .load 1 false (.tmp 61), (some (58, true)), []⟩,
 ⟨some 63, .mv (.tmp 6), (some (58, true)), []⟩,
 ⟨some 64, .idxs 1 (.tmp 62) (.tmp 63), (some (58, true)), []⟩,
 ⟨some 65, .load 1 false (.tmp 64), (some (58, true)), []⟩,
 ⟨some 66, .pick (.tmp 58) (.tmp 65) (.const (.bool false)), (some (50, false)), []⟩,
 Dd 67 (.pick (.tmp 50) (.const (.bool true)) (.tmp 66)),
 Dd 68 (.idxs 1 (.tmp 41) (.tmp 42)),
 De (.store 1 (.tmp 68) (.tmp 67))]
def F.A1.r14 : List DOp := [
 Dd 69 (.bin .add (.tmp 35) (.const (.int .i64 1))),
 Dd 35 (.mv (.tmp 69))]
def F.A1.L3 : ACode := .seq (.region F.A1.r11) (.seq (.cond (.tmp 36) (.skip) (.exit 6)) (.seq (.block 7 (.seq (.region F.A1.r12) (.draw F.A1.r13 []))) (.region F.A1.r14)))
def F.A1.r15 : List DOp := [
 Dd 70 (.bin .add (.tmp 30) (.const (.int .i64 1))),
 Dd 30 (.mv (.tmp 70))]
def F.A1.L2 : ACode := .seq (.region F.A1.r8) (.seq (.cond (.tmp 31) (.skip) (.exit 4)) (.seq (.block 5 (.seq (.region F.A1.r9) (.seq (.region F.A1.r10) (.block 6 (.loop F.A1.L3))))) (.region F.A1.r15)))
def F.A1.r16 : List DOp := [
 Dd 71 (.bin .add (.tmp 25) (.const (.int .i64 1))),
 Dd 25 (.mv (.tmp 71))]
def F.A1.L1 : ACode := .seq (.region F.A1.r5) (.seq (.cond (.tmp 26) (.skip) (.exit 2)) (.seq (.block 3 (.seq (.region F.A1.r6) (.seq (.region F.A1.r7) (.block 4 (.loop F.A1.L2))))) (.region F.A1.r16)))
def F.A1.r17 : List DOp := [
 Dd 72 (.mv (.tmp 3)),
 Dd 73 (.len (.tmp 72)),
 Dd 74 (.mv (.const (.int .i64 0)))]
def F.A1.r18 : List DOp := [
 Dd 75 (.bin .lss (.tmp 74) (.tmp 73))]
def F.A1.r19 : List DOp := [
 Dd 76 (.mv (.tmp 74)),
 Dd 7 (.mv (.tmp 76))]
def F.A1.r20 : List DOp := [
 Dd 77 (.mv (.tmp 0)),
 Dd 78 (.nilchk (.tmp 77)),
 Dd 79 (.faddr 6 (.tmp 78)),
 Dd 80 (.load 1 false (.tmp 79)),
 Dd 81 (.mv (.tmp 7)),
 Dd 82 (.idxs 1 (.tmp 80) (.tmp 81)),
 Dd 83 (.load 1 false (.tmp 82)),
 Dd 84 (.mv (.tmp 2)),
 Dd 85 (.mv (.tmp 3)),
 Dd 86 (.mv (.tmp 7)),
 Dd 87 (.idxs 1 (.tmp 85) (.tmp 86)),
 Dd 88 (.load 1 false (.tmp 87)),
 Dd 89 (.mv (.tmp 7)),
 Dd 90 (.idxs 1 (.tmp 88) (.tmp 89)),
 Dd 91 (.load 1 false (.tmp 90)),
 Dd 92 (.idxs 1 (.tmp 83) (.tmp 84)),
 De (.store 1 (.tmp 92) (.tmp 91))]
def F.A1.r21 : List DOp := [
 Dd 93 (.bin .add (.tmp 74) (.const (.int .i64 1))),
 Dd 74 (.mv (.tmp 93))]
def F.A1.L4 : ACode := .seq (.region F.A1.r18) (.seq (.cond (.tmp 75) (.skip) (.exit 8)) (.seq (.block 9 (.seq (.region F.A1.r19) (.draw F.A1.r20 []))) (.region F.A1.r21)))
def F.A1.r22 : List DOp := [
 Dd 94 (.bin .add (.tmp 17) (.const (.int .i64 1))),
 Dd 17 (.mv (.tmp 94))]
def F.A1.L0 : ACode := .seq (.region F.A1.r1) (.seq (.cond (.tmp 18) (.skip) (.exit 0)) (.seq (.block 1 (.seq (.region F.A1.r2) (.seq (.region F.A1.r3) (.seq (.seq (.region F.A1.r4) (.block 2 (.loop F.A1.L1))) (.seq (.region F.A1.r17) (.block 8 (.loop F.A1.L4))))))) (.region F.A1.r22)))
def F.A1.r23 : List DOp := [
 Dd 8 (.mv (.const (.bool true)))]
def F.A1.r24 : List DOp := [
 Dd 95 (.mv (.tmp 8))]
def F.A1.r25 : List DOp := [
 Dd 8 (.mv (.const (.bool false)))]
def F.A1.r26 : List DOp := [
 Dd 96 (.mv (.tmp 0)),
 Dd 97 (.nilchk (.tmp 96)),
 Dd 98 (.faddr 0 (.tmp 97)),
 Dd 99 (.faddr 3 (.tmp 98)),
 Dd 100 (.load 1 false (.tmp 99)),
 Dd 101 (.len (.tmp 100)),
 Dd 102 (.mv (.const (.int .i64 0)))]
def F.A1.r27 : List DOp := [
 Dd 103 (.bin .lss (.tmp 102) (.tmp 101))]
def F.A1.r28 : List DOp := [
 Dd 104 (.mv (.tmp 102)),
 Dd 105 (.idxs 2 (.tmp 100) (.tmp 102)),
 Dd 106 (.load 2 true (.tmp 105)),
 Dd 10 (.alloc [.int .i64 0, .slice none 0 0]),
 Dd 9 (.mv (.tmp 104)),
 De (.store 2 (.tmp 10) (.tmp 106))]
def F.A1.r29 : List DOp := [
 Dd 107 (.mv (.tmp 0)),
 Dd 108 (.nilchk (.tmp 107)),
 Dd 109 (.faddr 4 (.tmp 108)),
 Dd 110 (.load 1 false (.tmp 109)),
 Dd 111 (.bin .add (.tmp 110) (.const (.int .i64 1))),
 Dd 112 (.mv (.const (.int .i64 0)))]
def F.A1.r30 : List DOp := [
 Dd 113 (.bin .lss (.tmp 112) (.tmp 111))]
def F.A1.r31 : List DOp := [
 Dd 114 (.mv (.tmp 112)),
 Dd 11 (.mv (.tmp 114))]
def F.A1.r32 : List DOp := [
 Dd 115 (.mv (.tmp 0)),
 Dd 116 (.nilchk (.tmp 115)),
 Dd 117 (.faddr 6 (.tmp 116)),
 Dd 118 (.load 1 false (.tmp 117)),
 Dd 119 (.faddr 0 (.tmp 10)),
 Dd 120 (.load 1 false (.tmp 119)),
 Dd 121 (.idxs 1 (.tmp 118) (.tmp 120)),
 Dd 122 (.load 1 false (.tmp 121)),
 Dd 123 (.mv (.tmp 11)),
 Dd 124 (.idxs 1 (.tmp 122) (.tmp 123)),
 Dd 125 (.load 1 false (.tmp 124)),
 Dd 126 (.un .not (.tmp 125)),
 Dd 127 (.mv (.tmp 126)),
 ⟨some 128, .mv (.tmp 0), (some (127, true)), []⟩,
 ⟨some 129, .mv (.tmp 9), (some (127, true)), []⟩,
 ⟨some 130, .mv (.tmp 11), (some (127, true)), []⟩,
 ⟨some 131, .call I.B3 [.tmp 128, .tmp 129, .const (.int .i64 0), .tmp 130], (some (127, true)), []⟩,
 Dd 132 (.pick (.tmp 127) (.tmp 131) (.const (.bool false)))]
def F.A1.r33 : List DOp := [
 Dd 133 (.mv (.tmp 0)),
 Dd 134 (.nilchk (.tmp 133)),
 Dd 135 (.faddr 6 (.tmp 134)),
 Dd 136 (.load 1 false (.tmp 135)),
 Dd 137 (.faddr 0 (.tmp 10)),
 Dd 138 (.load 1 false (.tmp 137)),
 Dd 139 (.idxs 1 (.tmp 136) (.tmp 138)),
 Dd 140 (.load 1 false (.tmp 139)),
 Dd 141 (.mv (.tmp 11)),
 Dd 142 (.idxs 1 (.tmp 140) (.tmp 141)),
 De (.store 1 (.tmp 142) (.const (.bool true))),
 Dd 8 (.mv (.const (.bool true)))]
def F.A1.r34 : List DOp := [
 Dd 143 (.bin .add (.tmp 112) (.const (.int .i64 1))),
 Dd 112 (.mv (.tmp 143))]
def F.A1.L7 : ACode := .seq (.region F.A1.r30) (.seq (.cond (.tmp 113) (.skip) (.exit 14)) (.seq (.block 15 (.seq (.region F.A1.r31) (.seq (.draw F.A1.r32 []) (.cond (.tmp 132) (.draw F.A1.r33 []) (.skip))))) (.region F.A1.r34)))
def F.A1.r35 : List DOp := [
 Dd 144 (.bin .add (.tmp 102) (.const (.int .i64 1))),
 Dd 102 (.mv (.tmp 144))]
def F.A1.L6 : ACode := .seq (.region F.A1.r27) (.seq (.cond (.tmp 103) (.skip) (.exit 12)) (.seq (.block 13 (.seq (.region F.A1.r28) (.seq (.region F.A1.r29) (.block 14 (.loop F.A1.L7))))) (.region F.A1.r35)))
def F.A1.L5 : ACode := .seq (.seq (.region F.A1.r24) (.cond (.tmp 95) (.skip) (.exit 10))) (.block 11 (.seq (.region F.A1.r25) (.seq (.region F.A1.r26) (.block 12 (.loop F.A1.L6)))))
def F.A1.c : ACode := .seq (.seq (.region F.A1.r0) (.block 0 (.loop F.A1.L0))) (.seq (.region F.A1.r23) (.block 10 (.loop F.A1.L5)))
def F.A1 : AFunc := ⟨F.A1.c, []⟩
def F.B1.r0 : List DOp := [
 Dd 6 (.mv (.const (.int .i64 0)))]
def F.B1.r1 : List DOp := [
 Dd 11 (.mv (.tmp 0)),
 Dd 12 (.nilchk (.tmp 11)),
 Dd 13 (.faddr 5 (.tmp 12)),
 Dd 14 (.load 1 false (.tmp 13)),
 Dd 15 (.mv (.tmp 1)),
 Dd 16 (.idxs 1 (.tmp 14) (.tmp 15)),
 Dd 17 (.load 1 false (.tmp 16)),
 Dd 18 (.mv (.tmp 2)),
 Dd 19 (.idxs 1 (.tmp 17) (.tmp 18)),
 Dd 20 (.load 1 false (.tmp 19)),
 Dd 21 (.un .not (.tmp 20)),
 Dd 10 (.mv (.tmp 21))]
def F.B1.r2 : List DOp := [
 Dd 6 (.mv (.const (.int .i64 0)))]
def F.B1.r3 : List DOp := [
 Dd 23 (.mv (.tmp 0)),
 Dd 24 (.nilchk (.tmp 23)),
 Dd 25 (.faddr 6 (.tmp 24)),
 Dd 26 (.load 1 false (.tmp 25)),
 Dd 27 (.mv (.tmp 1)),
 Dd 28 (.idxs 1 (.tmp 26) (.tmp 27)),
 Dd 29 (.load 1 false (.tmp 28)),
 Dd 30 (.mv (.tmp 2)),
 Dd 31 (.idxs 1 (.tmp 29) (.tmp 30)),
 Dd 32 (.load 1 false (.tmp 31)),
 Dd 22 (.mv (.tmp 32))]
def F.B1.r4 : List DOp := [
 Dd 6 (.mv (.const (.int .i64 (-1))))]
def F.B1.r5 : List DOp := [
 Dd 34 (.mv (.tmp 0)),
 Dd 35 (.nilchk (.tmp 34)),
 Dd 36 (.faddr 7 (.tmp 35)),
 Dd 37 (.load 1 false (.tmp 36)),
 Dd 38 (.mv (.tmp 1)),
 Dd 39 (.idxs 1 (.tmp 37) (.tmp 38)),
 Dd 40 (.load 1 false (.tmp 39)),
 Dd 41 (.mv (.tmp 2)),
 Dd 42 (.idxs 1 (.tmp 40) (.tmp 41)),
 Dd 43 (.load 1 false (.tmp 42)),
 Dd 44 (.bin .geq (.tmp 43) (.const (.int .i64 0))),
 Dd 33 (.mv (.tmp 44))]
def F.B1.r6 : List DOp := [
 Dd 45 (.mv (.tmp 0)),
 Dd 46 (.nilchk (.tmp 45)),
 Dd 47 (.faddr 7 (.tmp 46)),
 Dd 48 (.load 1 false (.tmp 47)),
 Dd 49 (.mv (.tmp 1)),
 Dd 50 (.idxs 1 (.tmp 48) (.tmp 49)),
 Dd 51 (.load 1 false (.tmp 50)),
 Dd 52 (.mv (.tmp 2)),
 Dd 53 (.idxs 1 (.tmp 51) (.tmp 52)),
 Dd 54 (.load 1 false (.tmp 53)),
 Dd 6 (.mv (.tmp 54))]
def F.B1.r7 : List DOp := [
 Dd 7 (.mv (.const (.int .i64 0)))]
def F.B1.r8 : List DOp := [
 Dd 55 (.mv (.tmp 0)),
 Dd 56 (.nilchk (.tmp 55)),
 Dd 57 (.faddr 0 (.tmp 56)),
 Dd 58 (.faddr 3 (.tmp 57)),
 Dd 59 (.load 1 false (.tmp 58)),
 Dd 60 (.len (.tmp 59)),
 Dd 61 (.mv (.const (.int .i64 0)))]
def F.B1.r9 : List DOp := [
 Dd 62 (.bin .lss (.tmp 61) (.tmp 60))]
def F.B1.r10 : List DOp := [
 Dd 63 (.mv (.tmp 61)),
 Dd 64 (.idxs 2 (.tmp 59) (.tmp 61)),
 Dd 65 (.load 2 true (.tmp 64)),
 Dd 9 (.alloc [.int .i64 0, .slice none 0 0]),
 Dd 8 (.mv (.tmp 63)),
 De (.store 2 (.tmp 9) (.tmp 65))]
def F.B1.r11 : List DOp := [
 Dd 66 (.faddr 0 (.tmp 9)),
 Dd 67 (.load 1 false (.tmp 66)),
 Dd 68 (.mv (.tmp 1)),
 Dd 69 (.bin .eql (.tmp 67) (.tmp 68))]
def F.B1.r12 : List DOp := [
 Dd 70 (.mv (.tmp 7)),
 Dd 71 (.mv (.tmp 0)),
 Dd 72 (.mv (.tmp 8)),
 Dd 73 (.mv (.tmp 2)),
 Dd 74 (.call I.B8 [.tmp 71, .tmp 72, .const (.int .i64 0), .tmp 73]),
 Dd 75 (.bin .add (.tmp 70) (.tmp 74)),
 Dd 76 (.mm false [.const (.int .i64 1000000000), .tmp 75]),
 Dd 7 (.mv (.tmp 76))]
def F.B1.r13 : List DOp := [
 Dd 77 (.bin .add (.tmp 61) (.const (.int .i64 1))),
 Dd 61 (.mv (.tmp 77))]
def F.B1.L0 : ACode := .seq (.region F.B1.r9) (.seq (.cond (.tmp 62) (.skip) (.exit 1)) (.seq (.block 2 (.seq (.region F.B1.r10) (.seq (.region F.B1.r11) (.cond (.tmp 69) (.region F.B1.r12) (.skip))))) (.region F.B1.r13)))
def F.B1.r14 : List DOp := [
 Dd 78 (.mv (.tmp 0)),
 Dd 79 (.nilchk (.tmp 78)),
 Dd 80 (.faddr 7 (.tmp 79)),
 Dd 81 (.load 1 false (.tmp 80)),
 Dd 82 (.mv (.tmp 1)),
 Dd 83 (.idxs 1 (.tmp 81) (.tmp 82)),
 Dd 84 (.load 1 false (.tmp 83)),
 Dd 85 (.mv (.tmp 2)),
 Dd 86 (.mv (.tmp 7)),
 Dd 87 (.idxs 1 (.tmp 84) (.tmp 85)),
 De (.store 1 (.tmp 87) (.tmp 86))]
def F.B1.r15 : List DOp := [
 Dd 88 (.mv (.tmp 7)),
 Dd 6 (.mv (.tmp 88))]
def F.B1.c : ACode := .seq (.region F.B1.r0) (.seq (.block 0 (.seq (.region F.B1.r1) (.cond (.tmp 10) (.seq (.region F.B1.r2) (.ret)) (.seq (.region F.B1.r3) (.cond (.tmp 22) (.seq (.region F.B1.r4) (.ret)) (.seq (.region F.B1.r5) (.cond (.tmp 33) (.seq (.region F.B1.r6) (.ret)) (.skip)))))))) (.seq (.region F.B1.r7) (.seq (.seq (.region F.B1.r8) (.block 1 (.loop F.B1.L0))) (.seq (.region F.B1.r14) (.seq (.region F.B1.r15) (.ret))))))
def F.B1 : AFunc := ⟨F.B1.c, [.tmp 6]⟩
def F.B5.r0 : List DOp := [
 Dd 6 (.mv (.const (.slice none 0 0)))]
def F.B5.r1 : List DOp := [
 Dd 10 (.mv (.tmp 0)),
 Dd 11 (.mkslice 1 24 [.slice none 0 0] (.tmp 10) (.tmp 10)),
 Dd 7 (.mv (.tmp 11))]
def F.B5.r2 : List DOp := [
 Dd 12 (.mv (.tmp 7)),
 Dd 13 (.len (.tmp 12)),
 Dd 14 (.mv (.const (.int .i64 0)))]
def F.B5.r3 : List DOp := [
 Dd 15 (.bin .lss (.tmp 14) (.tmp 13))]
def F.B5.r4 : List DOp := [
 Dd 16 (.mv (.tmp 14)),
 Dd 8 (.mv (.tmp 16))]
def F.B5.r5 : List DOp := [
 Dd 17 (.mv (.tmp 7)),
 Dd 18 (.mv (.tmp 8)),
 Dd 19 (.mv (.tmp 1)),
 Dd 20 (.mkslice 1 1 [.bool false] (.tmp 19) (.tmp 19)),
 Dd 21 (.idxs 1 (.tmp 17) (.tmp 18)),
 De (.store 1 (.tmp 21) (.tmp 20))]
def F.B5.r6 : List DOp := [
 Dd 22 (.mv (.tmp 7)),
 Dd 23 (.mv (.tmp 8)),
 Dd 24 (.idxs 1 (.tmp 22) (.tmp 23)),
 Dd 25 (.load 1 false (.tmp 24)),
 Dd 26 (.len (.tmp 25)),
 Dd 27 (.mv (.const (.int .i64 0)))]
def F.B5.r7 : List DOp := [
 Dd 28 (.bin .lss (.tmp 27) (.tmp 26))]
def F.B5.r8 : List DOp := [
 Dd 29 (.mv (.tmp 27)),
 Dd 9 (.mv (.tmp 29))]
def F.B5.r9 : List DOp := [
 Dd 30 (.mv (.tmp 7)),
 Dd 31 (.mv (.tmp 8)),
 Dd 32 (.idxs 1 (.tmp 30) (.tmp 31)),
 Dd 33 (.load 1 false (.tmp 32)),
 Dd 34 (.mv (.tmp 9)),
 Dd 35 (.mv (.tmp 2)),
 Dd 36 (.idxs 1 (.tmp 33) (.tmp 34)),
 De (.store 1 (.tmp 36) (.tmp 35))]
def F.B5.r10 : List DOp := [
 Dd 37 (.bin .add (.tmp 27) (.const (.int .i64 1))),
 Dd 27 (.mv (.tmp 37))]
def F.B5.L1 : ACode := .seq (.region F.B5.r7) (.seq (.cond (.tmp 28) (.skip) (.exit 2)) (.seq (.block 3 (.seq (.region F.B5.r8) (.region F.B5.r9))) (.region F.B5.r10)))
def F.B5.r11 : List DOp := [
 Dd 38 (.bin .add (.tmp 14) (.const (.int .i64 1))),
 Dd 14 (.mv (.tmp 38))]
def F.B5.L0 : ACode := .seq (.region F.B5.r3) (.seq (.cond (.tmp 15) (.skip) (.exit 0)) (.seq (.block 1 (.seq (.region F.B5.r4) (.seq (.region F.B5.r5) (.seq (.region F.B5.r6) (.block 2 (.loop F.B5.L1)))))) (.region F.B5.r11)))
def F.B5.r12 : List DOp := [
 Dd 39 (.mv (.tmp 7)),
 Dd 6 (.mv (.tmp 39))]
def F.B5.c : ACode := .seq (.region F.B5.r0) (.seq (.region F.B5.r1) (.seq (.seq (.region F.B5.r2) (.block 0 (.loop F.B5.L0))) (.seq (.region F.B5.r12) (.ret))))
def F.B5 : AFunc := ⟨F.B5.c, [.tmp 6]⟩
def F.C7.r0 : List DOp := [
 Dd 6 (.mv (.const (.slice none 0 0)))]
def F.C7.r1 : List DOp := [
 Dd 10 (.mv (.tmp 0)),
 Dd 11 (.mkslice 1 24 [.slice none 0 0] (.tmp 10) (.tmp 10)),
 Dd 7 (.mv (.tmp 11))]
def F.C7.r2 : List DOp := [
 Dd 12 (.mv (.tmp 7)),
 Dd 13 (.len (.tmp 12)),
 Dd 14 (.mv (.const (.int .i64 0)))]
def F.C7.r3 : List DOp := [
 Dd 15 (.bin .lss (.tmp 14) (.tmp 13))]
def F.C7.r4 : List DOp := [
 Dd 16 (.mv (.tmp 14)),
 Dd 8 (.mv (.tmp 16))]
def F.C7.r5 : List DOp := [
 Dd 17 (.mv (.tmp 7)),
 Dd 18 (.mv (.tmp 8)),
 Dd 19 (.mv (.tmp 1)),
 Dd 20 (.mkslice 1 8 [.int .i64 0] (.tmp 19) (.tmp 19)),
 Dd 21 (.idxs 1 (.tmp 17) (.tmp 18)),
 De (.store 1 (.tmp 21) (.tmp 20))]
def F.C7.r6 : List DOp := [
 Dd 22 (.mv (.tmp 7)),
 Dd 23 (.mv (.tmp 8)),
 Dd 24 (.idxs 1 (.tmp 22) (.tmp 23)),
 Dd 25 (.load 1 false (.tmp 24)),
 Dd 26 (.len (.tmp 25)),
 Dd 27 (.mv (.const (.int .i64 0)))]
def F.C7.r7 : List DOp := [
 Dd 28 (.bin .lss (.tmp 27) (.tmp 26))]
def F.C7.r8 : List DOp := [
 Dd 29 (.mv (.tmp 27)),
 Dd 9 (.mv (.tmp 29))]
def F.C7.r9 : List DOp := [
 Dd 30 (.mv (.tmp 7)),
 Dd 31 (.mv (.tmp 8)),
 Dd 32 (.idxs 1 (.tmp 30) (.tmp 31)),
 Dd 33 (.load 1 false (.tmp 32)),
 Dd 34 (.mv (.tmp 9)),
 Dd 35 (.mv (.tmp 2)),
 Dd 36 (.idxs 1 (.tmp 33) (.tmp 34)),
 De (.store 1 (.tmp 36) (.tmp 35))]
def F.C7.r10 : List DOp := [
 Dd 37 (.bin .add (.tmp 27) (.const (.int .i64 1))),
 Dd 27 (.mv (.tmp 37))]
def F.C7.L1 : ACode := .seq (.region F.C7.r7) (.seq (.cond (.tmp 28) (.skip) (.exit 2)) (.seq (.block 3 (.seq (.region F.C7.r8) (.region F.C7.r9))) (.region F.C7.r10)))
def F.C7.r11 : List DOp := [
 Dd 38 (.bin .add (.tmp 14) (.const (.int .i64 1))),
 Dd 14 (.mv (.tmp 38))]
def F.C7.L0 : ACode := .seq (.region F.C7.r3) (.seq (.cond (.tmp 15) (.skip) (.exit 0)) (.seq (.block 1 (.seq (.region F.C7.r4) (.seq (.region F.C7.r5) (.seq (.region F.C7.r6) (.block 2 (.loop F.C7.L1)))))) (.region F.C7.r11)))
def F.C7.r12 : List DOp := [
 Dd 39 (.mv (.tmp 7)),
 Dd 6 (.mv (.tmp 39))]
def F.C7.c : ACode := .seq (.region F.C7.r0) (.seq (.region F.C7.r1) (.seq (.seq (.region F.C7.r2) (.block 0 (.loop F.C7.L0))) (.seq (.region F.C7.r12) (.ret))))
def F.C7 : AFunc := ⟨F.C7.c, [.tmp 6]⟩
def F.B7.r0 : List DOp := [
 Dd 8 (.mv (.tmp 0)),
 Dd 9 (.nilchk (.tmp 8)),
 Dd 10 (.faddr 0 (.tmp 9)),
 Dd 11 (.faddr 3 (.tmp 10)),
 Dd 12 (.load 1 false (.tmp 11)),
 Dd 13 (.mv (.tmp 1)),
 Dd 14 (.idxs 2 (.tmp 12) (.tmp 13)),
 Dd 15 (.faddr 1 (.tmp 14)),
 Dd 16 (.load 1 false (.tmp 15)),
 Dd 4 (.mv (.tmp 16))]
def F.B7.r1 : List DOp := [
 Dd 17 (.mv (.tmp 0)),
 Dd 18 (.nilchk (.tmp 17)),
 Dd 19 (.faddr 8 (.tmp 18)),
 Dd 20 (.load 1 false (.tmp 19)),
 Dd 21 (.mv (.tmp 1)),
 Dd 22 (.idxs 1 (.tmp 20) (.tmp 21)),
 Dd 23 (.load 1 false (.tmp 22)),
 Dd 24 (.mv (.tmp 4)),
 Dd 25 (.len (.tmp 24)),
 Dd 26 (.idxs 1 (.tmp 23) (.tmp 25)),
 Dd 27 (.load 1 false (.tmp 26)),
 Dd 28 (.idxs 1 (.tmp 27) (.const (.int .i64 0))),
 De (.store 1 (.tmp 28) (.const (.bool true)))]
def F.B7.r2 : List DOp := [
 Dd 29 (.mv (.tmp 4)),
 Dd 30 (.len (.tmp 29)),
 Dd 31 (.bin .sub (.tmp 30) (.const (.int .i64 1))),
 Dd 5 (.mv (.tmp 31))]
def F.B7.r3 : List DOp := [
 Dd 32 (.mv (.tmp 5)),
 Dd 33 (.bin .geq (.tmp 32) (.const (.int .i64 0)))]
def F.B7.r5 : List DOp := [
 Dd 36 (.mv (.tmp 0)),
 Dd 37 (.nilchk (.tmp 36)),
 Dd 38 (.faddr 4 (.tmp 37)),
 Dd 39 (.load 1 false (.tmp 38)),
 Dd 40 (.bin .add (.tmp 39) (.const (.int .i64 1))),
 Dd 41 (.mv (.const (.int .i64 0)))]
def F.B7.r6 : List DOp := [
 Dd 42 (.bin .lss (.tmp 41) (.tmp 40))]
def F.B7.r7 : List DOp := [
 Dd 43 (.mv (.tmp 41)),
 Dd 6 (.mv (.tmp 43))]
def F.B7.r8 : List DOp := [
 Dd 44 (.mv (.tmp 6)),
 Dd 45 (.bin .add (.tmp 44) (.const (.int .i64 1))),
 Dd 46 (.mv (.const (.int .i64 0)))]
def F.B7.r9 : List DOp := [
 Dd 47 (.bin .lss (.tmp 46) (.tmp 45))]
def F.B7.r10 : List DOp := [
 Dd 48 (.mv (.tmp 46)),
 Dd 7 (.mv (.tmp 48))]
def F.B7.r11 : List DOp := [
 Dd 49 (.mv (.tmp 0)),
 Dd 50 (.nilchk (.tmp 49)),
 Dd 51 (.faddr 8 (.tmp 50)),
 Dd 52 (.load 1 false (.tmp 51)),
 Dd 53 (.mv (.tmp 1)),
 Dd 54 (.idxs 1 (.tmp 52) (.tmp 53)),
 Dd 55 (.load 1 false (.tmp 54)),
 Dd 56 (.mv (.tmp 5)),
 Dd 57 (.idxs 1 (.tmp 55) (.tmp 56)),
 Dd 58 (.load 1 false (.tmp 57)),
 Dd 59 (.mv (.tmp 6)),
 Dd 60 (.mv (.tmp 0)),
 Dd 61 (.nilchk (.tmp 60)),
 Dd 62 (.faddr 8 (.tmp 61)),
 Dd 63 (.load 1 false (.tmp 62)),
 Dd 64 (.mv (.tmp 1)),
 Dd 65 (.idxs 1 (.tmp 63) (.tmp 64)),
 Dd 66 (.load 1 false (.tmp 65)),
 Dd 67 (.mv (.tmp 5)),
 Dd 68 (.idxs 1 (.tmp 66) (.tmp 67)),
 Dd 69 (.load 1 false (.tmp 68)),
 Dd 70 (.mv (.tmp 6)),
 Dd 71 (.idxs 1 (.tmp 69) (.tmp 70)),
 Dd 72 (.load 1 false (.tmp 71)),
 Dd 73 (.mv (.tmp 72)),
 ⟨some 74, .mv (.tmp 0), (some (73, false)), []⟩,
 ⟨some 75, .mv (.tmp 4), (some (73, false)), []⟩,
 ⟨some 76, .mv (.tmp 5), (some (73, false)), []⟩,
 ⟨some 77, .idxs 2 (.tmp 75) (.tmp 76), (some (73, false)), []⟩,
 ⟨some 78, .load 2 true (.tmp 77), (some (73, false)), []⟩,
 ⟨some 79, .mv (.tmp 7), (some (73, false)), []⟩,
 ⟨some 80, .call I.D0 [.tmp 74, .tmp 78, .tmp 79], (some (73, false)), []⟩,
 ⟨some 81, .mv (.tmp 80), (some (73, false)), []⟩,
 ⟨some 82, .mv (.tmp 0), (some (81, true)), []⟩,
 ⟨some 83, .nilchk (.tmp 82), (some (81, true)), []⟩,
 ⟨some 84, .faddr 8 (.tmp 83), (some (81, true)), []⟩,
 ⟨some 85, .load 1 false (.tmp 84), (some (81, true)), []⟩,
 ⟨some 86, .mv (.tmp 1), (some (81, true)), []⟩,
 ⟨some 87, .idxs 1 (.tmp 85) (.tmp 86), (some (81, true)), []⟩,
 ⟨some 88, .load 1 false (.tmp 87), (some (81, true)), []⟩,
 ⟨some 89, .mv (.tmp 5), (some (81, true)), []⟩,
 ⟨some 90, .bin .add (.tmp 89) (.const (.int .i64 1)), (some (81, true)), []⟩,
 ⟨some 91, .idxs 1 (.tmp 88) (.tmp 90), (some (81, true)), []⟩,
 ⟨some 92, .load 1 false (.tmp 91), (some (81, true)), []⟩,
 ⟨some 93, .mv (.tmp 6), (some (81, true)), []⟩,
 ⟨some 94, .mv (.tmp 7), (some (81, true)), []⟩,
 ⟨some 95, .bin .sub (.tmp 93) (.tmp 94), (some (81, true)), []⟩,
 ⟨some 96, .idxs 1 (.tmp 92) (.tmp 95), (some (81, true)), []⟩,
 ⟨some 97, .load 1 false (.tmp 96), (some (81, true)), []⟩,
 ⟨some 98, .pick (.tmp 81) (.tmp 97) (.const (.bool false)), (some (73, false)), []⟩,
 Dd 99 (.pick (.tmp 73) (.const (.bool true)) (.tmp 98)),
 Dd 100 (.idxs 1 (.tmp 58) (.tmp 59)),
 De (.store 1 (.tmp 100) (.tmp 99))]
def F.B7.r12 : List DOp := [
 Dd 101 (.bin .add (.tmp 46) (.const (.int .i64 1))),
 Dd 46 (.mv (.tmp 101))]
def F.B7.L2 : ACode := .seq (.region F.B7.r9) (.seq (.cond (.tmp 47) (.skip) (.exit 4)) (.seq (.block 5 (.seq (.region F.B7.r10) (.draw F.B7.r11 [(3, 31), (6, 31), (9, 31)]))) (.region F.B7.r12)))
def F.B7.r13 : List DOp := [
 Dd 102 (.bin .add (.tmp 41) (.const (.int .i64 1))),
 Dd 41 (.mv (.tmp 102))]
def F.B7.L1 : ACode := .seq (.region F.B7.r6) (.seq (.cond (.tmp 42) (.skip) (.exit 2)) (.seq (.block 3 (.seq (.region F.B7.r7) (.seq (.region F.B7.r8) (.block 4 (.loop F.B7.L2))))) (.region F.B7.r13)))
def F.B7.r4 : List DOp := [
 Dd 34 (.mv (.tmp 5)),
 Dd 35 (.bin .sub (.tmp 34) (.const (.int .i64 1))),
 Dd 5 (.mv (.tmp 35))]
def F.B7.L0 : ACode := .seq (.seq (.region F.B7.r3) (.cond (.tmp 33) (.skip) (.exit 0))) (.seq (.block 1 (.seq (.region F.B7.r5) (.block 2 (.loop F.B7.L1)))) (.region F.B7.r4))
def F.B7.c : ACode := .seq (.region F.B7.r0) (.seq (.region F.B7.r1) (.seq (.region F.B7.r2) (.block 0 (.loop F.B7.L0))))
def F.B7 : AFunc := ⟨F.B7.c, []⟩
def F.A9.r0 : List DOp := [
 Dd 4 (.mv (.const (.slice none 0 0)))]
def F.A9.r1 : List DOp := [
 Dd 13 (.mv (.tmp 0)),
 Dd 14 (.nilchk (.tmp 13)),
 Dd 15 (.faddr 0 (.tmp 14)),
 Dd 16 (.faddr 1 (.tmp 15)),
 Dd 17 (.load 1 false (.tmp 16)),
 Dd 18 (.mv (.tmp 0)),
 Dd 19 (.nilchk (.tmp 18)),
 Dd 20 (.faddr 0 (.tmp 19)),
 Dd 21 (.faddr 1 (.tmp 20)),
 Dd 22 (.load 1 false (.tmp 21)),
 Dd 23 (.call I.B5 [.tmp 17, .tmp 22, .const (.bool false)]),
 Dd 5 (.mv (.tmp 23))]
def F.A9.r2 : List DOp := [
 Dd 24 (.mv (.tmp 0)),
 Dd 25 (.nilchk (.tmp 24)),
 Dd 26 (.faddr 0 (.tmp 25)),
 Dd 27 (.faddr 3 (.tmp 26)),
 Dd 28 (.load 1 false (.tmp 27)),
 Dd 29 (.len (.tmp 28)),
 Dd 30 (.mv (.const (.int .i64 0)))]
def F.A9.r3 : List DOp := [
 Dd 31 (.bin .lss (.tmp 30) (.tmp 29))]
def F.A9.r4 : List DOp := [
 Dd 32 (.idxs 2 (.tmp 28) (.tmp 30)),
 Dd 33 (.load 2 true (.tmp 32)),
 Dd 7 (.alloc [.int .i64 0, .slice none 0 0]),
 De (.store 2 (.tmp 7) (.tmp 33))]
def F.A9.r5 : List DOp := [
 Dd 34 (.faddr 1 (.tmp 7)),
 Dd 35 (.load 1 false (.tmp 34)),
 Dd 36 (.len (.tmp 35)),
 Dd 37 (.mv (.const (.int .i64 0)))]
def F.A9.r6 : List DOp := [
 Dd 38 (.bin .lss (.tmp 37) (.tmp 36))]
def F.A9.r7 : List DOp := [
 Dd 39 (.mv (.tmp 37)),
 Dd 40 (.idxs 2 (.tmp 35) (.tmp 37)),
 Dd 41 (.load 2 true (.tmp 40)),
 Dd 9 (.alloc [.bool false, .int .i64 0]),
 Dd 8 (.mv (.tmp 39)),
 De (.store 2 (.tmp 9) (.tmp 41))]
def F.A9.r8 : List DOp := [
 Dd 42 (.faddr 0 (.tmp 9)),
 Dd 43 (.load 1 false (.tmp 42)),
 Dd 44 (.mv (.tmp 43)),
 ⟨some 45, .mv (.tmp 0), (some (44, false)), []⟩,
 ⟨some 46, .nilchk (.tmp 45), (some (44, false)), []⟩,
 ⟨some 47, .faddr 5 (.tmp 46), (some (44, false)), []⟩,
 ⟨some 48, .load 1 false (.tmp 47), (some (44, false)), []⟩,
 ⟨some 49, .faddr 1 (.tmp 9), (some (44, false)), []⟩,
 ⟨some 50, .load 1 false (.tmp 49), (some (44, false)), []⟩,
 ⟨some 51, .idxs 1 (.tmp 48) (.tmp 50), (some (44, false)), []⟩,
 ⟨some 52, .load 1 false (.tmp 51), (some (44, false)), []⟩,
 ⟨some 53, .mv (.tmp 1), (some (44, false)), []⟩,
 ⟨some 54, .idxs 1 (.tmp 52) (.tmp 53), (some (44, false)), []⟩,
 ⟨some 55, .load 1 false (.tmp 54), (some (44, false)), []⟩,
 ⟨some 56, .un .not (.tmp 55), (some (44, false)), []⟩,
 Dd 57 (.pick (.tmp 44) (.const (.bool true)) (.tmp 56))]
def F.A9.r9 : List DOp := [
 Dd 10 (.mv (.const (.bool true)))]
def F.A9.r10 : List DOp := [
 Dd 58 (.faddr 1 (.tmp 7)),
 Dd 59 (.load 1 false (.tmp 58)),
 Dd 60 (.len (.tmp 59)),
 Dd 61 (.mv (.const (.int .i64 0)))]
def F.A9.r11 : List DOp := [
 Dd 62 (.bin .lss (.tmp 61) (.tmp 60))]
def F.A9.r12 : List DOp := [
 Dd 63 (.mv (.tmp 61)),
 Dd 64 (.idxs 2 (.tmp 59) (.tmp 61)),
 Dd 65 (.load 2 true (.tmp 64)),
 Dd 12 (.alloc [.bool false, .int .i64 0]),
 Dd 11 (.mv (.tmp 63)),
 De (.store 2 (.tmp 12) (.tmp 65))]
def F.A9.r13 : List DOp := [
 Dd 66 (.mv (.tmp 10)),
 Dd 67 (.mv (.tmp 66)),
 ⟨some 68, .mv (.tmp 11), (some (67, true)), []⟩,
 ⟨some 69, .mv (.tmp 8), (some (67, true)), []⟩,
 ⟨some 70, .bin .eql (.tmp 68) (.tmp 69), (some (67, true)), []⟩,
 ⟨some 71, .mv (.tmp 70), (some (67, true)), []⟩,
 ⟨some 72, .mv (.tmp 0), (some (71, false)), []⟩,
 ⟨some 73, .load 2 true (.tmp 12), (some (71, false)), []⟩,
 ⟨some 74, .call I.D0 [.tmp 72, .tmp 73, .const (.int .i64 0)], (some (71, false)), []⟩,
 ⟨some 75, .pick (.tmp 71) (.const (.bool true)) (.tmp 74), (some (67, true)), []⟩,
 Dd 76 (.pick (.tmp 67) (.tmp 75) (.const (.bool false))),
 Dd 10 (.mv (.tmp 76))]
def F.A9.r14 : List DOp := [
 Dd 77 (.bin .add (.tmp 61) (.const (.int .i64 1))),
 Dd 61 (.mv (.tmp 77))]
def F.A9.L2 : ACode := .seq (.region F.A9.r11) (.seq (.cond (.tmp 62) (.skip) (.exit 4)) (.seq (.block 5 (.seq (.region F.A9.r12) (.region F.A9.r13))) (.region F.A9.r14)))
def F.A9.r15 : List DOp := [
 Dd 78 (.mv (.tmp 5)),
 Dd 79 (.faddr 0 (.tmp 7)),
 Dd 80 (.load 1 false (.tmp 79)),
 Dd 81 (.idxs 1 (.tmp 78) (.tmp 80)),
 Dd 82 (.load 1 false (.tmp 81)),
 Dd 83 (.faddr 1 (.tmp 9)),
 Dd 84 (.load 1 false (.tmp 83)),
 Dd 85 (.mv (.tmp 5)),
 Dd 86 (.faddr 0 (.tmp 7)),
 Dd 87 (.load 1 false (.tmp 86)),
 Dd 88 (.idxs 1 (.tmp 85) (.tmp 87)),
 Dd 89 (.load 1 false (.tmp 88)),
 Dd 90 (.faddr 1 (.tmp 9)),
 Dd 91 (.load 1 false (.tmp 90)),
 Dd 92 (.idxs 1 (.tmp 89) (.tmp 91)),
 Dd 93 (.load 1 false (.tmp 92)),
 Dd 94 (.mv (.tmp 93)),
 ⟨some 95, .mv (.tmp 10), (some (94, false)), []⟩,
 Dd 96 (.pick (.tmp 94) (.const (.bool true)) (.tmp 95)),
 Dd 97 (.idxs 1 (.tmp 82) (.tmp 84)),
 De (.store 1 (.tmp 97) (.tmp 96))]
def F.A9.r16 : List DOp := [
 Dd 98 (.bin .add (.tmp 37) (.const (.int .i64 1))),
 Dd 37 (.mv (.tmp 98))]
def F.A9.L1 : ACode := .seq (.region F.A9.r6) (.seq (.cond (.tmp 38) (.skip) (.exit 2)) (.seq (.block 3 (.seq (.region F.A9.r7) (.seq (.seq (.draw F.A9.r8 []) (.cond (.tmp 57) (.exit 3) (.skip))) (.seq (.region F.A9.r9) (.seq (.seq (.region F.A9.r10) (.block 4 (.loop F.A9.L2))) (.draw F.A9.r15 [])))))) (.region F.A9.r16)))
def F.A9.r17 : List DOp := [
 Dd 99 (.bin .add (.tmp 30) (.const (.int .i64 1))),
 Dd 30 (.mv (.tmp 99))]
def F.A9.L0 : ACode := .seq (.region F.A9.r3) (.seq (.cond (.tmp 31) (.skip) (.exit 0)) (.seq (.block 1 (.seq (.region F.A9.r4) (.seq (.region F.A9.r5) (.block 2 (.loop F.A9.L1))))) (.region F.A9.r17)))
def F.A9.r18 : List DOp := [
 Dd 100 (.mv (.tmp 5)),
 Dd 4 (.mv (.tmp 100))]
def F.A9.c : ACode := .seq (.region F.A9.r0) (.seq (.draw F.A9.r1 []) (.seq (.seq (.region F.A9.r2) (.block 0 (.loop F.A9.L0))) (.seq (.region F.A9.r18) (.ret))))
def F.A9 : AFunc := ⟨F.A9.c, [.tmp 4]⟩
def F.B3.r0 : List DOp := [
 Dd 8 (.mv (.const (.bool false)))]
def F.B3.r1 : List DOp := [
 Dd 11 (.mv (.tmp 0)),
 Dd 12 (.nilchk (.tmp 11)),
 Dd 13 (.faddr 0 (.tmp 12)),
 Dd 14 (.faddr 3 (.tmp 13)),
 Dd 15 (.load 1 false (.tmp 14)),
 Dd 16 (.mv (.tmp 1)),
 Dd 17 (.idxs 2 (.tmp 15) (.tmp 16)),
 Dd 18 (.faddr 1 (.tmp 17)),
 Dd 19 (.load 1 false (.tmp 18)),
 Dd 9 (.mv (.tmp 19))]
def F.B3.r2 : List DOp := [
 Dd 20 (.mv (.tmp 2)),
 Dd 21 (.mv (.tmp 9)),
 Dd 22 (.len (.tmp 21)),
 Dd 23 (.bin .eql (.tmp 20) (.tmp 22)),
 Dd 24 (.mv (.tmp 23)),
 ⟨some 25, .mv (.tmp 0), (some (24, false)), []⟩,
 ⟨some 26, .nilchk (.tmp 25), (some (24, false)), []⟩,
 ⟨some 27, .faddr 8 (.tmp 26), (some (24, false)), []⟩,
 ⟨some 28, .load 1 false (.tmp 27), (some (24, false)), []⟩,
 ⟨some 29, .mv (.tmp 1), (some (24, false)), []⟩,
 ⟨some 30, .idxs 1 (.tmp 28) (.tmp 29), (some (24, false)), []⟩,
 ⟨some 31, .load 1 false (.tmp 30), (some (24, false)), []⟩,
 ⟨some 32, .mv (.tmp 2), (some (24, false)), []⟩,
 ⟨some 33, .idxs 1 (.tmp 31) (.tmp 32), (some (24, false)), []⟩,
 ⟨some 34, .load 1 false (.tmp 33), (some (24, false)), []⟩,
 ⟨some 35, .mv (.tmp 3), (some (24, false)), []⟩,
 ⟨some 36, .idxs 1 (.tmp 34) (.tmp 35), (some (24, false)), []⟩,
 ⟨some 37, .load 1 false (.tmp 36), (some (24, false)), []⟩,
 ⟨some 38, .un .not (.tmp 37), (some (24, false)), []⟩,
 Dd 39 (.pick (.tmp 24) (.const (.bool true)) (.tmp 38))]
def F.B3.r3 : List DOp := [
 Dd 8 (.mv (.const (.bool false)))]
def F.B3.r4 : List DOp := [
 Dd 40 (.mv (.tmp 3)),
 Dd 41 (.bin .add (.tmp 40) (.const (.int .i64 1))),
 Dd 42 (.mv (.const (.int .i64 0)))]
def F.B3.r5 : List DOp := [
 Dd 43 (.bin .lss (.tmp 42) (.tmp 41))]
def F.B3.r6 : List DOp := [
 Dd 44 (.mv (.tmp 42)),
 Dd 10 (.mv (.tmp 44))]
def F.B3.r7 : List DOp := [
 Dd 45 (.mv (.tmp 0)),
 Dd 46 (.mv (.tmp 9)),
 Dd 47 (.mv (.tmp 2)),
 Dd 48 (.idxs 2 (.tmp 46) (.tmp 47)),
 Dd 49 (.load 2 true (.tmp 48)),
 Dd 50 (.mv (.tmp 10)),
 Dd 51 (.call I.D0 [.tmp 45, .tmp 49, .tmp 50]),
 Dd 52 (.un .not (.tmp 51)),
 Dd 53 (.mv (.tmp 52)),
 ⟨some 54, .mv (.tmp 0), (some (53, false)), []⟩,
 ⟨some 55, .nilchk (.tmp 54), (some (53, false)), []⟩,
 ⟨some 56, .faddr 8 (.tmp 55), (some (53, false)), []⟩,
 ⟨some 57, .load 1 false (.tmp 56), (some (53, false)), []⟩,
 ⟨some 58, .mv (.tmp 1), (some (53, false)), []⟩,
 ⟨some 59, .idxs 1 (.tmp 57) (.tmp 58), (some (53, false)), []⟩,
 ⟨some 60, .load 1 false (.tmp 59), (some (53, false)), []⟩,
 ⟨some 61, .mv (.tmp 2), (some (53, false)), []⟩,
 ⟨some 62, .bin .add (.tmp 61) (.const (.int .i64 1)), (some (53, false)), []⟩,
 ⟨some 63, .idxs 1 (.tmp 60) (.tmp 62), (some (53, false)), []⟩,
 ⟨some 64, .load 1 false (.tmp 63), (some (53, false)), []⟩,
 ⟨some 65, .mv (.tmp 3), (some (53, false)), []⟩,
 ⟨some 66, .mv (.tmp 10), (some (53, false)), []⟩,
 ⟨some 67, .bin .sub (.tmp 65) (.tmp 66), (some (53, false)), []⟩,
 ⟨some 68, .idxs 1 (.tmp 64) (.tmp 67), (some (53, false)), []⟩,
 ⟨some 69, .load 1 false (.tmp 68), (some (53, false)), []⟩,
 ⟨some 70, .un .not (.tmp 69), (some (53, false)), []⟩,
 Dd 71 (.pick (.tmp 53) (.const (.bool true)) (.tmp 70))]
def F.B3.r8 : List DOp := [
 Dd 72 (.mv (.tmp 9)),
 Dd 73 (.mv (.tmp 2)),
 Dd 74 (.idxs 2 (.tmp 72) (.tmp 73)),
 Dd 75 (.faddr 0 (.tmp 74)),
 Dd 76 (.load 1 false (.tmp 75)),
 Dd 77 (.un .not (.tmp 76)),
 Dd 78 (.mv (.tmp 77)),
 ⟨some 79, .mv (.tmp 0), (some (78, true)), []⟩,
 ⟨some 80, .nilchk (.tmp 79), (some (78, true)), []⟩,
 ⟨some 81, .faddr 6 (.tmp 80), (some (78, true)), []⟩,
 ⟨some 82, .load 1 false (.tmp 81), (some (78, true)), []⟩,
 ⟨some 83, .mv (.tmp 9), (some (78, true)), []⟩,
 ⟨some 84, .mv (.tmp 2), (some (78, true)), []⟩,
 ⟨some 85, .idxs 2 (.tmp 83) (.tmp 84), (some (78, true)), []⟩,
 ⟨some 86, .faddr 1 (.tmp 85), (some (78, true)), []⟩,
 ⟨some 87, .load 1 false (.tmp 86), (some (78, true)), []⟩,
 ⟨some 88, .idxs 1 (.tmp 82) (.tmp 87), (some (78, true)), []⟩,
 ⟨some 89, .load 1 false (.tmp 88), (some (78, true)), []⟩,
 ⟨some 90, .mv (.tmp 10), (some (78, true)), []⟩,
 ⟨some 91, .idxs 1 (.tmp 89) (.tmp 90), (some (78, true)), []⟩,
 ⟨some 92, .load 1 false (.tmp 91), (some (78, true)), []⟩,
 Dd 93 (.pick (.tmp 78) (.tmp 92) (.const (.bool false))),
 Dd 94 (.mv (.tmp 93)),
 ⟨some 95, .mv (.tmp 0), (some (94, false)), []⟩,
 ⟨some 96, .mv (.tmp 1), (some (94, false)), []⟩,
 ⟨some 97, .mv (.tmp 2), (some (94, false)), []⟩,
 ⟨some 98, .bin .add (.tmp 97) (.const (.int .i64 1)), (some (94, false)), []⟩,
 ⟨some 99, .mv (.tmp 3), (some (94, false)), []⟩,
 ⟨some 100, .mv (.tmp 10), (some (94, false)), []⟩,
 ⟨some 101, .bin .sub (.tmp 99) (.tmp 100), (some (94, false)), []⟩,
 ⟨some 102, .call I.B3 [.tmp 95, .tmp 96, .tmp 98, .tmp 101], (some (94, false)), []⟩,
 Dd 103 (.pick (.tmp 94) (.const (.bool true)) (.tmp 102))]
def F.B3.r9 : List DOp := [
 Dd 8 (.mv (.const (.bool true)))]
def F.B3.r10 : List DOp := [
 Dd 104 (.bin .add (.tmp 42) (.const (.int .i64 1))),
 Dd 42 (.mv (.tmp 104))]
def F.B3.L0 : ACode := .seq (.region F.B3.r5) (.seq (.cond (.tmp 43) (.skip) (.exit 0)) (.seq (.block 1 (.seq (.region F.B3.r6) (.seq (.seq (.region F.B3.r7) (.cond (.tmp 71) (.exit 1) (.skip))) (.seq (.draw F.B3.r8 []) (.cond (.tmp 103) (.seq (.region F.B3.r9) (.ret)) (.skip)))))) (.region F.B3.r10)))
def F.B3.r11 : List DOp := [
 Dd 8 (.mv (.const (.bool false)))]
def F.B3.c : ACode := .seq (.region F.B3.r0) (.seq (.region F.B3.r1) (.seq (.seq (.region F.B3.r2) (.cond (.tmp 39) (.seq (.region F.B3.r3) (.ret)) (.skip))) (.seq (.seq (.region F.B3.r4) (.block 0 (.loop F.B3.L0))) (.seq (.region F.B3.r11) (.ret)))))
def F.B3 : AFunc := ⟨F.B3.c, [.tmp 8]⟩
def F.B8.r0 : List DOp := [
 Dd 8 (.mv (.const (.int .i64 0)))]
def F.B8.r1 : List DOp := [
 Dd 13 (.mv (.tmp 0)),
 Dd 14 (.nilchk (.tmp 13)),
 Dd 15 (.faddr 0 (.tmp 14)),
 Dd 16 (.faddr 3 (.tmp 15)),
 Dd 17 (.load 1 false (.tmp 16)),
 Dd 18 (.mv (.tmp 1)),
 Dd 19 (.idxs 2 (.tmp 17) (.tmp 18)),
 Dd 20 (.faddr 1 (.tmp 19)),
 Dd 21 (.load 1 false (.tmp 20)),
 Dd 9 (.mv (.tmp 21))]
def F.B8.r2 : List DOp := [
 Dd 23 (.mv (.tmp 0)),
 Dd 24 (.nilchk (.tmp 23)),
 Dd 25 (.faddr 8 (.tmp 24)),
 Dd 26 (.load 1 false (.tmp 25)),
 Dd 27 (.mv (.tmp 1)),
 Dd 28 (.idxs 1 (.tmp 26) (.tmp 27)),
 Dd 29 (.load 1 false (.tmp 28)),
 Dd 30 (.mv (.tmp 2)),
 Dd 31 (.idxs 1 (.tmp 29) (.tmp 30)),
 Dd 32 (.load 1 false (.tmp 31)),
 Dd 33 (.mv (.tmp 3)),
 Dd 34 (.idxs 1 (.tmp 32) (.tmp 33)),
 Dd 35 (.load 1 false (.tmp 34)),
 Dd 36 (.un .not (.tmp 35)),
 Dd 22 (.mv (.tmp 36))]
def F.B8.r3 : List DOp := [
 Dd 8 (.mv (.const (.int .i64 0)))]
def F.B8.r4 : List DOp := [
 Dd 38 (.mv (.tmp 2)),
 Dd 39 (.mv (.tmp 9)),
 Dd 40 (.len (.tmp 39)),
 Dd 41 (.bin .eql (.tmp 38) (.tmp 40)),
 Dd 37 (.mv (.tmp 41))]
def F.B8.r5 : List DOp := [
 Dd 8 (.mv (.const (.int .i64 1)))]
def F.B8.r6 : List DOp := [
 Dd 43 (.mv (.tmp 0)),
 Dd 44 (.nilchk (.tmp 43)),
 Dd 45 (.faddr 9 (.tmp 44)),
 Dd 46 (.load 1 false (.tmp 45)),
 Dd 47 (.mv (.tmp 1)),
 Dd 48 (.idxs 1 (.tmp 46) (.tmp 47)),
 Dd 49 (.load 1 false (.tmp 48)),
 Dd 50 (.mv (.tmp 2)),
 Dd 51 (.idxs 1 (.tmp 49) (.tmp 50)),
 Dd 52 (.load 1 false (.tmp 51)),
 Dd 53 (.mv (.tmp 3)),
 Dd 54 (.idxs 1 (.tmp 52) (.tmp 53)),
 Dd 55 (.load 1 false (.tmp 54)),
 Dd 56 (.bin .geq (.tmp 55) (.const (.int .i64 0))),
 Dd 42 (.mv (.tmp 56))]
def F.B8.r7 : List DOp := [
 Dd 57 (.mv (.tmp 0)),
 Dd 58 (.nilchk (.tmp 57)),
 Dd 59 (.faddr 9 (.tmp 58)),
 Dd 60 (.load 1 false (.tmp 59)),
 Dd 61 (.mv (.tmp 1)),
 Dd 62 (.idxs 1 (.tmp 60) (.tmp 61)),
 Dd 63 (.load 1 false (.tmp 62)),
 Dd 64 (.mv (.tmp 2)),
 Dd 65 (.idxs 1 (.tmp 63) (.tmp 64)),
 Dd 66 (.load 1 false (.tmp 65)),
 Dd 67 (.mv (.tmp 3)),
 Dd 68 (.idxs 1 (.tmp 66) (.tmp 67)),
 Dd 69 (.load 1 false (.tmp 68)),
 Dd 8 (.mv (.tmp 69))]
def F.B8.r8 : List DOp := [
 Dd 10 (.mv (.const (.int .i64 0)))]
def F.B8.r9 : List DOp := [
 Dd 70 (.mv (.tmp 3)),
 Dd 71 (.bin .add (.tmp 70) (.const (.int .i64 1))),
 Dd 72 (.mv (.const (.int .i64 0)))]
def F.B8.r10 : List DOp := [
 Dd 73 (.bin .lss (.tmp 72) (.tmp 71))]
def F.B8.r11 : List DOp := [
 Dd 74 (.mv (.tmp 72)),
 Dd 11 (.mv (.tmp 74))]
def F.B8.r12 : List DOp := [
 Dd 75 (.mv (.tmp 0)),
 Dd 76 (.mv (.tmp 9)),
 Dd 77 (.mv (.tmp 2)),
 Dd 78 (.idxs 2 (.tmp 76) (.tmp 77)),
 Dd 79 (.load 2 true (.tmp 78)),
 Dd 80 (.mv (.tmp 11)),
 Dd 81 (.call I.D0 [.tmp 75, .tmp 79, .tmp 80]),
 Dd 82 (.un .not (.tmp 81)),
 Dd 83 (.mv (.tmp 82)),
 ⟨some 84, .mv (.tmp 0), (some (83, false)), []⟩,
 ⟨some 85, .nilchk (.tmp 84), (some (83, false)), []⟩,
 ⟨some 86, .faddr 8 (.tmp 85), (some (83, false)), []⟩,
 ⟨some 87, .load 1 false (.tmp 86), (some (83, false)), []⟩,
 ⟨some 88, .mv (.tmp 1), (some (83, false)), []⟩,
 ⟨some 89, .idxs 1 (.tmp 87) (.tmp 88), (some (83, false)), []⟩,
 ⟨some 90, .load 1 false (.tmp 89), (some (83, false)), []⟩,
 ⟨some 91, .mv (.tmp 2), (some (83, false)), []⟩,
 ⟨some 92, .bin .add (.tmp 91) (.const (.int .i64 1)), (some (83, false)), []⟩,
 ⟨some 93, .idxs 1 (.tmp 90) (.tmp 92), (some (83, false)), []⟩,
 ⟨some 94, .load 1 false (.tmp 93), (some (83, false)), []⟩,
 ⟨some 95, .mv (.tmp 3), (some (83, false)), []⟩,
 ⟨some 96, .mv (.tmp 11), (some (83, false)), []⟩,
 ⟨some 97, .bin .sub (.tmp 95) (.tmp 96), (some (83, false)), []⟩,
 ⟨some 98, .idxs 1 (.tmp 94) (.tmp 97), (some (83, false)), []⟩,
 ⟨some 99, .load 1 false (.tmp 98), (some (83, false)), []⟩,
 ⟨some 100, .un .not (.tmp 99), (some (83, false)), []⟩,
 Dd 101 (.pick (.tmp 83) (.const (.bool true)) (.tmp 100))]
def F.B8.r13 : List DOp := [
 Dd 12 (.mv (.const (.int .i64 1)))]
def F.B8.r14 : List DOp := [
 Dd 102 (.mv (.tmp 9)),
 Dd 103 (.mv (.tmp 2)),
 Dd 104 (.idxs 2 (.tmp 102) (.tmp 103)),
 Dd 105 (.faddr 0 (.tmp 104)),
 Dd 106 (.load 1 false (.tmp 105)),
 Dd 107 (.un .not (.tmp 106))]
def F.B8.r15 : List DOp := [
 Dd 108 (.mv (.tmp 0)),
 Dd 109 (.mv (.tmp 9)),
 Dd 110 (.mv (.tmp 2)),
 Dd 111 (.idxs 2 (.tmp 109) (.tmp 110)),
 Dd 112 (.faddr 1 (.tmp 111)),
 Dd 113 (.load 1 false (.tmp 112)),
 Dd 114 (.mv (.tmp 11)),
 Dd 115 (.call I.B1 [.tmp 108, .tmp 113, .tmp 114]),
 Dd 12 (.mv (.tmp 115))]
def F.B8.r16 : List DOp := [
 Dd 116 (.mv (.tmp 10)),
 Dd 117 (.mv (.tmp 12)),
 Dd 118 (.mv (.tmp 0)),
 Dd 119 (.mv (.tmp 1)),
 Dd 120 (.mv (.tmp 2)),
 Dd 121 (.bin .add (.tmp 120) (.const (.int .i64 1))),
 Dd 122 (.mv (.tmp 3)),
 Dd 123 (.mv (.tmp 11)),
 Dd 124 (.bin .sub (.tmp 122) (.tmp 123)),
 Dd 125 (.call I.B8 [.tmp 118, .tmp 119, .tmp 121, .tmp 124]),
 Dd 126 (.bin .mul (.tmp 117) (.tmp 125)),
 Dd 127 (.mm false [.const (.int .i64 1000000000), .tmp 126]),
 Dd 128 (.bin .add (.tmp 116) (.tmp 127)),
 Dd 129 (.mm false [.const (.int .i64 1000000000), .tmp 128]),
 Dd 10 (.mv (.tmp 129))]
def F.B8.r17 : List DOp := [
 Dd 130 (.bin .add (.tmp 72) (.const (.int .i64 1))),
 Dd 72 (.mv (.tmp 130))]
def F.B8.L0 : ACode := .seq (.region F.B8.r10) (.seq (.cond (.tmp 73) (.skip) (.exit 1)) (.seq (.block 2 (.seq (.region F.B8.r11) (.seq (.seq (.region F.B8.r12) (.cond (.tmp 101) (.exit 2) (.skip))) (.seq (.region F.B8.r13) (.seq (.seq (.region F.B8.r14) (.cond (.tmp 107) (.region F.B8.r15) (.skip))) (.region F.B8.r16)))))) (.region F.B8.r17)))
def F.B8.r18 : List DOp := [
 Dd 131 (.mv (.tmp 0)),
 Dd 132 (.nilchk (.tmp 131)),
 Dd 133 (.faddr 9 (.tmp 132)),
 Dd 134 (.load 1 false (.tmp 133)),
 Dd 135 (.mv (.tmp 1)),
 Dd 136 (.idxs 1 (.tmp 134) (.tmp 135)),
 Dd 137 (.load 1 false (.tmp 136)),
 Dd 138 (.mv (.tmp 2)),
 Dd 139 (.idxs 1 (.tmp 137) (.tmp 138)),
 Dd 140 (.load 1 false (.tmp 139)),
 Dd 141 (.mv (.tmp 3)),
 Dd 142 (.mv (.tmp 10)),
 Dd 143 (.idxs 1 (.tmp 140) (.tmp 141)),
 De (.store 1 (.tmp 143) (.tmp 142))]
def F.B8.r19 : List DOp := [
 Dd 144 (.mv (.tmp 10)),
 Dd 8 (.mv (.tmp 144))]
def F.B8.c : ACode := .seq (.region F.B8.r0) (.seq (.region F.B8.r1) (.seq (.block 0 (.seq (.region F.B8.r2) (.cond (.tmp 22) (.seq (.region F.B8.r3) (.ret)) (.seq (.region F.B8.r4) (.cond (.tmp 37) (.seq (.region F.B8.r5) (.ret)) (.seq (.region F.B8.r6) (.cond (.tmp 42) (.seq (.region F.B8.r7) (.ret)) (.skip)))))))) (.seq (.region F.B8.r8) (.seq (.seq (.region F.B8.r9) (.block 1 (.loop F.B8.L0))) (.seq (.region F.B8.r18) (.seq (.region F.B8.r19) (.ret)))))))
def F.B8 : AFunc := ⟨F.B8.c, [.tmp 8]⟩
def F.D0.r0 : List DOp := [
 Dd 4 (.box (.tmp 1)),
 Dd 6 (.mv (.const (.bool false)))]
def F.D0.r1 : List DOp := [
 Dd 7 (.faddr 0 (.tmp 4)),
 Dd 8 (.load 1 false (.tmp 7))]
def F.D0.r2 : List DOp := [
 Dd 9 (.mv (.tmp 2)),
 Dd 10 (.bin .eql (.tmp 9) (.const (.int .i64 1))),
 Dd 6 (.mv (.tmp 10))]
def F.D0.r3 : List DOp := [
 Dd 11 (.mv (.tmp 0)),
 Dd 12 (.nilchk (.tmp 11)),
 Dd 13 (.faddr 5 (.tmp 12)),
 Dd 14 (.load 1 false (.tmp 13)),
 Dd 15 (.faddr 1 (.tmp 4)),
 Dd 16 (.load 1 false (.tmp 15)),
 Dd 17 (.idxs 1 (.tmp 14) (.tmp 16)),
 Dd 18 (.load 1 false (.tmp 17)),
 Dd 19 (.mv (.tmp 2)),
 Dd 20 (.idxs 1 (.tmp 18) (.tmp 19)),
 Dd 21 (.load 1 false (.tmp 20)),
 Dd 6 (.mv (.tmp 21))]
def F.D0.c : ACode := .seq (.region F.D0.r0) (.seq (.seq (.region F.D0.r1) (.cond (.tmp 8) (.seq (.region F.D0.r2) (.ret)) (.skip))) (.seq (.draw F.D0.r3 []) (.ret)))
def F.D0 : AFunc := ⟨F.D0.c, [.tmp 6]⟩
end Go.Proofs.Ytmeigkelacoibaa
