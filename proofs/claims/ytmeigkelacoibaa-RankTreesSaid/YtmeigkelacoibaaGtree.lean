import Derived.Test.YtmeigkelacoibaaI
namespace Go.Proofs.Ytmeigkelacoibaa
open Go Go.Ab
def F.F2.r0 : List DOp := [
 Dd 2 (.box (.tmp 0)),
 Dd 3 (.box (.tmp 1)),
 Dd 4 (.mv (.const (.int .i64 0)))]
def F.F2.r1 : List DOp := [
 Dd 6 (.load 4 true (.tmp 2)),
 Dd 7 (.call I.C4 [.tmp 6]),
 Dd 5 (.mv (.tmp 7))]
def F.F2.r2 : List DOp := [
 Dd 8 (.mv (.tmp 5)),
 Dd 9 (.bin .neq (.tmp 8) (.const (.int .i64 0)))]
def F.F2.r3 : List DOp := [
 Dd 10 (.mv (.tmp 5)),
 Dd 4 (.mv (.tmp 10))]
def F.F2.r4 : List DOp := [
 Dd 11 (.load 3 true (.tmp 3)),
 Dd 12 (.call I.D8 [.tmp 11]),
 Dd 13 (.bin .gtr (.tmp 12) (.const (.int .i64 5000)))]
def F.F2.r5 : List DOp := [
 Dd 4 (.mv (.const (.int .i64 2)))]
def F.F2.r6 : List DOp := [
 Dd 14 (.load 4 true (.tmp 2)),
 Dd 15 (.load 3 true (.tmp 3)),
 Dd 16 (.call I.D9 [.tmp 14, .tmp 15]),
 Dd 17 (.un .not (.tmp 16))]
def F.F2.r7 : List DOp := [
 Dd 4 (.mv (.const (.int .i64 3)))]
def F.F2.r8 : List DOp := [
 Dd 4 (.mv (.const (.int .i64 0)))]
def F.F2.c : ACode := .seq (.region F.F2.r0) (.seq (.seq (.region F.F2.r1) (.seq (.region F.F2.r2) (.cond (.tmp 9) (.seq (.region F.F2.r3) (.ret)) (.skip)))) (.seq (.seq (.region F.F2.r4) (.cond (.tmp 13) (.seq (.region F.F2.r5) (.ret)) (.skip))) (.seq (.seq (.region F.F2.r6) (.cond (.tmp 17) (.seq (.region F.F2.r7) (.ret)) (.skip))) (.seq (.region F.F2.r8) (.ret)))))
def F.F2 : AFunc := ⟨F.F2.c, [.tmp 4]⟩
def F.F9.r0 : List DOp := [
 Dd 1 (.box (.tmp 0)),
 Dd 2 (.mv (.const (.slice none 0 0)))]
def F.F9.r1 : List DOp := [
 Dd 3 (.load 3 true (.tmp 1)),
 Dd 4 (.call I.E7 [.const (.slice none 0 0), .tmp 3]),
 Dd 2 (.mv (.tmp 4))]
def F.F9.c : ACode := .seq (.region F.F9.r0) (.seq (.region F.F9.r1) (.ret))
def F.F9 : AFunc := ⟨F.F9.c, [.tmp 2]⟩
def F.E5.r0 : List DOp := [
 Dd 2 (.box (.tmp 0)),
 Dd 3 (.box (.tmp 1)),
 Dd 4 (.mv (.const (.int .i64 0)))]
def F.E5.r1 : List DOp := [
 Dd 7 (.load 3 true (.tmp 2)),
 Dd 8 (.call I.D8 [.tmp 7]),
 Dd 9 (.load 3 true (.tmp 3)),
 Dd 10 (.call I.D8 [.tmp 9]),
 Dd 11 (.call I.C2 [.tmp 8, .tmp 10]),
 Dd 5 (.mv (.tmp 11))]
def F.E5.r2 : List DOp := [
 Dd 12 (.mv (.tmp 5)),
 Dd 13 (.bin .neq (.tmp 12) (.const (.int .i64 0)))]
def F.E5.r3 : List DOp := [
 Dd 14 (.mv (.tmp 5)),
 Dd 4 (.mv (.tmp 14))]
def F.E5.r4 : List DOp := [
 Dd 15 (.load 3 true (.tmp 2)),
 Dd 16 (.call I.D7 [.const (.slice none 0 0), .tmp 15]),
 Dd 17 (.load 3 true (.tmp 3)),
 Dd 18 (.call I.D7 [.const (.slice none 0 0), .tmp 17]),
 Dd 19 (.call I.B0 [.tmp 16, .tmp 18]),
 Dd 6 (.mv (.tmp 19))]
def F.E5.r5 : List DOp := [
 Dd 20 (.mv (.tmp 6)),
 Dd 21 (.bin .neq (.tmp 20) (.const (.int .i64 0)))]
def F.E5.r6 : List DOp := [
 Dd 22 (.mv (.tmp 6)),
 Dd 4 (.mv (.tmp 22))]
def F.E5.r7 : List DOp := [
 Dd 23 (.load 3 true (.tmp 2)),
 Dd 24 (.call I.F9 [.tmp 23]),
 Dd 25 (.load 3 true (.tmp 3)),
 Dd 26 (.call I.F9 [.tmp 25]),
 Dd 27 (.call I.B0 [.tmp 24, .tmp 26]),
 Dd 4 (.mv (.tmp 27))]
def F.E5.c : ACode := .seq (.region F.E5.r0) (.seq (.seq (.draw F.E5.r1 [(2, 1)]) (.seq (.region F.E5.r2) (.cond (.tmp 13) (.seq (.region F.E5.r3) (.ret)) (.skip)))) (.seq (.seq (.draw F.E5.r4 [(2, 1)]) (.seq (.region F.E5.r5) (.cond (.tmp 21) (.seq (.region F.E5.r6) (.ret)) (.skip)))) (.seq (.draw F.E5.r7 [(2, 1)]) (.ret))))
def F.E5 : AFunc := ⟨F.E5.c, [.tmp 4]⟩
def F.D8.r0 : List DOp := [
 Dd 1 (.box (.tmp 0)),
 Dd 2 (.mv (.const (.int .i64 0)))]
def F.D8.r1 : List DOp := [
 Dd 3 (.mv (.const (.int .i64 1)))]
def F.D8.r2 : List DOp := [
 Dd 6 (.load 3 true (.tmp 1)),
 Dd 7 (.call I.E4 [.tmp 6])]
def F.D8.r3 : List DOp := [
 Dd 8 (.mv (.tmp 3)),
 Dd 2 (.mv (.tmp 8))]
def F.D8.r4 : List DOp := [
 Dd 9 (.faddr 2 (.tmp 1)),
 Dd 10 (.load 1 false (.tmp 9)),
 Dd 11 (.len (.tmp 10)),
 Dd 12 (.mv (.const (.int .i64 0)))]
def F.D8.r5 : List DOp := [
 Dd 13 (.bin .lss (.tmp 12) (.tmp 11))]
def F.D8.r6 : List DOp := [
 Dd 14 (.idxs 3 (.tmp 10) (.tmp 12)),
 Dd 15 (.load 3 true (.tmp 14)),
 Dd 5 (.alloc [.int .i64 0, .int .i64 0, .slice none 0 0]),
 De (.store 3 (.tmp 5) (.tmp 15))]
def F.D8.r7 : List DOp := [
 Dd 16 (.mv (.tmp 3)),
 Dd 17 (.load 3 true (.tmp 5)),
 Dd 18 (.call I.D8 [.tmp 17]),
 Dd 19 (.bin .add (.tmp 16) (.tmp 18)),
 Dd 3 (.mv (.tmp 19))]
def F.D8.r8 : List DOp := [
 Dd 20 (.bin .add (.tmp 12) (.const (.int .i64 1))),
 Dd 12 (.mv (.tmp 20))]
def F.D8.L0 : ACode := .seq (.region F.D8.r5) (.seq (.cond (.tmp 13) (.skip) (.exit 0)) (.seq (.block 1 (.seq (.region F.D8.r6) (.region F.D8.r7))) (.region F.D8.r8)))
def F.D8.r9 : List DOp := [
 Dd 21 (.mv (.tmp 3)),
 Dd 2 (.mv (.tmp 21))]
def F.D8.c : ACode := .seq (.region F.D8.r0) (.seq (.region F.D8.r1) (.seq (.seq (.region F.D8.r2) (.cond (.tmp 7) (.seq (.region F.D8.r3) (.ret)) (.skip))) (.seq (.seq (.region F.D8.r4) (.block 0 (.loop F.D8.L0))) (.seq (.region F.D8.r9) (.ret)))))
def F.D8 : AFunc := ⟨F.D8.c, [.tmp 2]⟩
def F.D9.r0 : List DOp := [
 Dd 2 (.box (.tmp 0)),
 Dd 3 (.box (.tmp 1)),
 Dd 4 (.mv (.const (.bool false)))]
def F.D9.r1 : List DOp := [
 Dd 13 (.load 4 true (.tmp 2)),
 Dd 14 (.load 3 true (.tmp 3)),
 Dd 15 (.call I.F1 [.tmp 13, .tmp 14]),
 Dd 12 (.mv (.tmp 15)),
 Dd 16 (.extract (.tmp 12) 0),
 Dd 17 (.extract (.tmp 12) 1),
 Dd 5 (.alloc [.bool false, .int .i64 0]),
 De (.store 2 (.tmp 5) (.tmp 16)),
 Dd 6 (.mv (.tmp 17))]
def F.D9.r2 : List DOp := [
 Dd 18 (.mv (.tmp 6)),
 Dd 19 (.un .not (.tmp 18)),
 Dd 20 (.mv (.tmp 19)),
 ⟨some 21, .load 3 true (.tmp 3), (some (20, false)), []⟩,
 ⟨some 22, .call I.E4 [.tmp 21], (some (20, false)), []⟩,
 Dd 23 (.pick (.tmp 20) (.const (.bool true)) (.tmp 22))]
def F.D9.r3 : List DOp := [
 Dd 24 (.mv (.tmp 6)),
 Dd 4 (.mv (.tmp 24))]
def F.D9.r4 : List DOp := [
 Dd 25 (.faddr 3 (.tmp 2)),
 Dd 26 (.load 1 false (.tmp 25)),
 Dd 27 (.faddr 0 (.tmp 3)),
 Dd 28 (.load 1 false (.tmp 27)),
 Dd 29 (.idxs 2 (.tmp 26) (.tmp 28)),
 Dd 30 (.faddr 1 (.tmp 29)),
 Dd 31 (.load 1 false (.tmp 30)),
 Dd 7 (.mv (.tmp 31))]
def F.D9.r5 : List DOp := [
 Dd 32 (.faddr 2 (.tmp 3)),
 Dd 33 (.load 1 false (.tmp 32)),
 Dd 34 (.len (.tmp 33)),
 Dd 35 (.mv (.tmp 7)),
 Dd 36 (.len (.tmp 35)),
 Dd 37 (.bin .neq (.tmp 34) (.tmp 36))]
def F.D9.r6 : List DOp := [
 Dd 4 (.mv (.const (.bool false)))]
def F.D9.r7 : List DOp := [
 Dd 38 (.faddr 2 (.tmp 3)),
 Dd 39 (.load 1 false (.tmp 38)),
 Dd 40 (.len (.tmp 39)),
 Dd 41 (.mv (.const (.int .i64 0)))]
def F.D9.r8 : List DOp := [
 Dd 42 (.bin .lss (.tmp 41) (.tmp 40))]
def F.D9.r9 : List DOp := [
 Dd 43 (.mv (.tmp 41)),
 Dd 44 (.idxs 3 (.tmp 39) (.tmp 41)),
 Dd 45 (.load 3 true (.tmp 44)),
 Dd 9 (.alloc [.int .i64 0, .int .i64 0, .slice none 0 0]),
 Dd 8 (.mv (.tmp 43)),
 De (.store 3 (.tmp 9) (.tmp 45))]
def F.D9.r10 : List DOp := [
 Dd 47 (.load 4 true (.tmp 2)),
 Dd 48 (.load 3 true (.tmp 9)),
 Dd 49 (.call I.F1 [.tmp 47, .tmp 48]),
 Dd 46 (.mv (.tmp 49)),
 Dd 50 (.extract (.tmp 46) 0),
 Dd 51 (.extract (.tmp 46) 1),
 Dd 10 (.alloc [.bool false, .int .i64 0]),
 De (.store 2 (.tmp 10) (.tmp 50)),
 Dd 11 (.mv (.tmp 51))]
def F.D9.r11 : List DOp := [
 Dd 52 (.mv (.tmp 11)),
 Dd 53 (.un .not (.tmp 52)),
 Dd 54 (.mv (.tmp 53)),
 ⟨some 55, .load 2 true (.tmp 10), (some (54, false)), []⟩,
 ⟨some 56, .mv (.tmp 7), (some (54, false)), []⟩,
 ⟨some 57, .mv (.tmp 8), (some (54, false)), []⟩,
 ⟨some 58, .idxs 2 (.tmp 56) (.tmp 57), (some (54, false)), []⟩,
 ⟨some 59, .load 2 true (.tmp 58), (some (54, false)), []⟩,
 ⟨some 60, .eq true (.struct [(0, .bool), (1, .int)]) (.tmp 55) (.tmp 59), (some (54, false)), []⟩,
 Dd 61 (.pick (.tmp 54) (.const (.bool true)) (.tmp 60)),
 Dd 62 (.mv (.tmp 61)),
 ⟨some 63, .load 4 true (.tmp 2), (some (62, false)), []⟩,
 ⟨some 64, .load 3 true (.tmp 9), (some (62, false)), []⟩,
 ⟨some 65, .call I.D9 [.tmp 63, .tmp 64], (some (62, false)), []⟩,
 ⟨some 66, .un .not (.tmp 65), (some (62, false)), []⟩,
 Dd 67 (.pick (.tmp 62) (.const (.bool true)) (.tmp 66))]
def F.D9.r12 : List DOp := [
 Dd 4 (.mv (.const (.bool false)))]
def F.D9.r13 : List DOp := [
 Dd 68 (.bin .add (.tmp 41) (.const (.int .i64 1))),
 Dd 41 (.mv (.tmp 68))]
def F.D9.L0 : ACode := .seq (.region F.D9.r8) (.seq (.cond (.tmp 42) (.skip) (.exit 0)) (.seq (.block 1 (.seq (.region F.D9.r9) (.seq (.region F.D9.r10) (.seq (.draw F.D9.r11 []) (.cond (.tmp 67) (.seq (.region F.D9.r12) (.ret)) (.skip)))))) (.region F.D9.r13)))
def F.D9.r14 : List DOp := [
 Dd 4 (.mv (.const (.bool true)))]
def F.D9.c : ACode := .seq (.region F.D9.r0) (.seq (.seq (.region F.D9.r1) (.seq (.region F.D9.r2) (.cond (.tmp 23) (.seq (.region F.D9.r3) (.ret)) (.skip)))) (.seq (.region F.D9.r4) (.seq (.seq (.region F.D9.r5) (.cond (.tmp 37) (.seq (.region F.D9.r6) (.ret)) (.skip))) (.seq (.seq (.region F.D9.r7) (.block 0 (.loop F.D9.L0))) (.seq (.region F.D9.r14) (.ret))))))
def F.D9 : AFunc := ⟨F.D9.c, [.tmp 4]⟩
def F.E7.r0 : List DOp := [
 Dd 3 (.box (.tmp 1)),
 Dd 4 (.mv (.const (.slice none 0 0)))]
def F.E7.r1 : List DOp := [
 Dd 7 (.load 3 true (.tmp 3)),
 Dd 8 (.call I.E4 [.tmp 7])]
def F.E7.r2 : List DOp := [
 Dd 9 (.mv (.tmp 0)),
 Dd 10 (.faddr 1 (.tmp 3)),
 Dd 11 (.load 1 false (.tmp 10)),
 Dd 12 (.bslice 1 1 [.int .i64 0] [(0, 1, .tmp 11)]),
 Dd 13 (.append 1 8 (.tmp 9) (.tmp 12)),
 Dd 4 (.mv (.tmp 13))]
def F.E7.r3 : List DOp := [
 Dd 14 (.faddr 2 (.tmp 3)),
 Dd 15 (.load 1 false (.tmp 14)),
 Dd 16 (.len (.tmp 15)),
 Dd 17 (.mv (.const (.int .i64 0)))]
def F.E7.r4 : List DOp := [
 Dd 18 (.bin .lss (.tmp 17) (.tmp 16))]
def F.E7.r5 : List DOp := [
 Dd 19 (.idxs 3 (.tmp 15) (.tmp 17)),
 Dd 20 (.load 3 true (.tmp 19)),
 Dd 6 (.alloc [.int .i64 0, .int .i64 0, .slice none 0 0]),
 De (.store 3 (.tmp 6) (.tmp 20))]
def F.E7.r6 : List DOp := [
 Dd 21 (.mv (.tmp 0)),
 Dd 22 (.load 3 true (.tmp 6)),
 Dd 23 (.call I.E7 [.tmp 21, .tmp 22]),
 Dd 0 (.mv (.tmp 23))]
def F.E7.r7 : List DOp := [
 Dd 24 (.bin .add (.tmp 17) (.const (.int .i64 1))),
 Dd 17 (.mv (.tmp 24))]
def F.E7.L0 : ACode := .seq (.region F.E7.r4) (.seq (.cond (.tmp 18) (.skip) (.exit 0)) (.seq (.block 1 (.seq (.region F.E7.r5) (.region F.E7.r6))) (.region F.E7.r7)))
def F.E7.r8 : List DOp := [
 Dd 25 (.mv (.tmp 0)),
 Dd 4 (.mv (.tmp 25))]
def F.E7.c : ACode := .seq (.region F.E7.r0) (.seq (.seq (.region F.E7.r1) (.cond (.tmp 8) (.seq (.region F.E7.r2) (.ret)) (.skip))) (.seq (.seq (.region F.E7.r3) (.block 0 (.loop F.E7.L0))) (.seq (.region F.E7.r8) (.ret))))
def F.E7 : AFunc := ⟨F.E7.c, [.tmp 4]⟩
def F.D7.r0 : List DOp := [
 Dd 3 (.box (.tmp 1)),
 Dd 4 (.mv (.const (.slice none 0 0)))]
def F.D7.r1 : List DOp := [
 Dd 7 (.mv (.tmp 0)),
 Dd 8 (.faddr 0 (.tmp 3)),
 Dd 9 (.load 1 false (.tmp 8)),
 Dd 10 (.bslice 1 1 [.int .i64 0] [(0, 1, .tmp 9)]),
 Dd 11 (.append 1 8 (.tmp 7) (.tmp 10)),
 Dd 0 (.mv (.tmp 11))]
def F.D7.r2 : List DOp := [
 Dd 12 (.load 3 true (.tmp 3)),
 Dd 13 (.call I.E4 [.tmp 12])]
def F.D7.r3 : List DOp := [
 Dd 14 (.mv (.tmp 0)),
 Dd 4 (.mv (.tmp 14))]
def F.D7.r4 : List DOp := [
 Dd 15 (.faddr 2 (.tmp 3)),
 Dd 16 (.load 1 false (.tmp 15)),
 Dd 17 (.len (.tmp 16)),
 Dd 18 (.mv (.const (.int .i64 0)))]
def F.D7.r5 : List DOp := [
 Dd 19 (.bin .lss (.tmp 18) (.tmp 17))]
def F.D7.r6 : List DOp := [
 Dd 20 (.idxs 3 (.tmp 16) (.tmp 18)),
 Dd 21 (.load 3 true (.tmp 20)),
 Dd 6 (.alloc [.int .i64 0, .int .i64 0, .slice none 0 0]),
 De (.store 3 (.tmp 6) (.tmp 21))]
def F.D7.r7 : List DOp := [
 Dd 22 (.mv (.tmp 0)),
 Dd 23 (.load 3 true (.tmp 6)),
 Dd 24 (.call I.D7 [.tmp 22, .tmp 23]),
 Dd 0 (.mv (.tmp 24))]
def F.D7.r8 : List DOp := [
 Dd 25 (.bin .add (.tmp 18) (.const (.int .i64 1))),
 Dd 18 (.mv (.tmp 25))]
def F.D7.L0 : ACode := .seq (.region F.D7.r5) (.seq (.cond (.tmp 19) (.skip) (.exit 0)) (.seq (.block 1 (.seq (.region F.D7.r6) (.region F.D7.r7))) (.region F.D7.r8)))
def F.D7.r9 : List DOp := [
 Dd 26 (.mv (.tmp 0)),
 Dd 4 (.mv (.tmp 26))]
def F.D7.c : ACode := .seq (.region F.D7.r0) (.seq (.region F.D7.r1) (.seq (.seq (.region F.D7.r2) (.cond (.tmp 13) (.seq (.region F.D7.r3) (.ret)) (.skip))) (.seq (.seq (.region F.D7.r4) (.block 0 (.loop F.D7.L0))) (.seq (.region F.D7.r9) (.ret)))))
def F.D7 : AFunc := ⟨F.D7.c, [.tmp 4]⟩
def F.E4.r0 : List DOp := [
 Dd 1 (.box (.tmp 0)),
 Dd 2 (.mv (.const (.bool false)))]
def F.E4.r1 : List DOp := [
 Dd 3 (.faddr 0 (.tmp 1)),
 Dd 4 (.load 1 false (.tmp 3)),
 Dd 5 (.bin .eql (.tmp 4) (.const (.int .i64 (-1)))),
 Dd 2 (.mv (.tmp 5))]
def F.E4.c : ACode := .seq (.region F.E4.r0) (.seq (.region F.E4.r1) (.ret))
def F.E4 : AFunc := ⟨F.E4.c, [.tmp 2]⟩
def F.F1.r0 : List DOp := [
 Dd 2 (.box (.tmp 0)),
 Dd 3 (.box (.tmp 1)),
 Dd 4 (.alloc [.bool false, .int .i64 0]),
 Dd 5 (.mv (.const (.bool false)))]
def F.F1.r1 : List DOp := [
 Dd 6 (.load 3 true (.tmp 3)),
 Dd 7 (.call I.E4 [.tmp 6])]
def F.F1.r2 : List DOp := [
 Dd 8 (.faddr 1 (.tmp 3)),
 Dd 9 (.load 1 false (.tmp 8)),
 Dd 10 (.build [.bool false, .int .i64 0] [(0, 1, .const (.bool true)), (1, 1, .tmp 9)]),
 Dd 11 (.faddr 1 (.tmp 3)),
 Dd 12 (.load 1 false (.tmp 11)),
 Dd 13 (.bin .geq (.tmp 12) (.const (.int .i64 0))),
 Dd 14 (.mv (.tmp 13)),
 ⟨some 15, .faddr 1 (.tmp 3), (some (14, true)), []⟩,
 ⟨some 16, .load 1 false (.tmp 15), (some (14, true)), []⟩,
 ⟨some 17, .faddr 0 (.tmp 2), (some (14, true)), []⟩,
 ⟨some 18, .load 1 false (.tmp 17), (some (14, true)), []⟩,
 ⟨some 19, .bin .lss (.tmp 16) (.tmp 18), (some (14, true)), []⟩,
 Dd 20 (.pick (.tmp 14) (.tmp 19) (.const (.bool false))),
 Dd 21 (.mv (.tmp 20)),
 ⟨some 22, .faddr 2 (.tmp 3), (some (21, true)), []⟩,
 ⟨some 23, .load 1 false (.tmp 22), (some (21, true)), []⟩,
 ⟨some 24, .len (.tmp 23), (some (21, true)), []⟩,
 ⟨some 25, .bin .eql (.tmp 24) (.const (.int .i64 0)), (some (21, true)), []⟩,
 Dd 26 (.pick (.tmp 21) (.tmp 25) (.const (.bool false))),
 De (.store 2 (.tmp 4) (.tmp 10)),
 Dd 5 (.mv (.tmp 26))]
def F.F1.r3 : List DOp := [
 Dd 27 (.faddr 0 (.tmp 3)),
 Dd 28 (.load 1 false (.tmp 27)),
 Dd 29 (.bin .lss (.tmp 28) (.const (.int .i64 0))),
 Dd 30 (.mv (.tmp 29)),
 ⟨some 31, .faddr 0 (.tmp 3), (some (30, false)), []⟩,
 ⟨some 32, .load 1 false (.tmp 31), (some (30, false)), []⟩,
 ⟨some 33, .faddr 3 (.tmp 2), (some (30, false)), []⟩,
 ⟨some 34, .load 1 false (.tmp 33), (some (30, false)), []⟩,
 ⟨some 35, .len (.tmp 34), (some (30, false)), []⟩,
 ⟨some 36, .bin .geq (.tmp 32) (.tmp 35), (some (30, false)), []⟩,
 Dd 37 (.pick (.tmp 30) (.const (.bool true)) (.tmp 36))]
def F.F1.r4 : List DOp := [
 Dd 38 (.build [.bool false, .int .i64 0] []),
 De (.store 2 (.tmp 4) (.tmp 38)),
 Dd 5 (.mv (.const (.bool false)))]
def F.F1.r5 : List DOp := [
 Dd 39 (.faddr 3 (.tmp 2)),
 Dd 40 (.load 1 false (.tmp 39)),
 Dd 41 (.faddr 0 (.tmp 3)),
 Dd 42 (.load 1 false (.tmp 41)),
 Dd 43 (.idxs 2 (.tmp 40) (.tmp 42)),
 Dd 44 (.faddr 0 (.tmp 43)),
 Dd 45 (.load 1 false (.tmp 44)),
 Dd 46 (.build [.bool false, .int .i64 0] [(1, 1, .tmp 45)]),
 Dd 47 (.faddr 1 (.tmp 3)),
 Dd 48 (.load 1 false (.tmp 47)),
 Dd 49 (.bin .eql (.tmp 48) (.const (.int .i64 0))),
 De (.store 2 (.tmp 4) (.tmp 46)),
 Dd 5 (.mv (.tmp 49))]
def F.F1.c : ACode := .seq (.region F.F1.r0) (.seq (.seq (.region F.F1.r1) (.cond (.tmp 7) (.seq (.draw F.F1.r2 [(15, 19)]) (.ret)) (.skip))) (.seq (.seq (.region F.F1.r3) (.cond (.tmp 37) (.seq (.region F.F1.r4) (.ret)) (.skip))) (.seq (.draw F.F1.r5 [(9, 11)]) (.ret))))
def F.F1 : AFunc := ⟨F.F1.c, [.cell 4 2 true, .tmp 5]⟩
end Go.Proofs.Ytmeigkelacoibaa
