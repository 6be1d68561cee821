import Derived.Test.YtmeigkelacoibaaI
namespace Go.Proofs.Ytmeigkelacoibaa
open Go Go.Ab
def F.B9.r0 : List DOp := [
 Dd 2 (.alloc [.int .i64 0, .int .i64 0, .int .i64 0, .slice none 0 0])]
def F.B9.r1 : List DOp := [
 Dd 6 (.mv (.tmp 0)),
 Dd 7 (.build [.slice none 0 0] [(0, 1, .tmp 6)]),
 Dd 8 (.box (.tmp 7)),
 Dd 3 (.mv (.tmp 8))]
def F.B9.r2 : List DOp := [
 Dd 9 (.mv (.tmp 3)),
 Dd 10 (.call I.A8 [.tmp 9, .const (.int .i64 3)]),
 Dd 11 (.bin .add (.const (.int .i64 1)) (.tmp 10)),
 Dd 12 (.mv (.tmp 3)),
 Dd 13 (.call I.A8 [.tmp 12, .const (.int .i64 4)]),
 Dd 14 (.bin .add (.const (.int .i64 1)) (.tmp 13)),
 Dd 15 (.build [.int .i64 0, .int .i64 0, .int .i64 0, .slice none 0 0] [(0, 1, .tmp 11), (1, 1, .tmp 14)]),
 Dd 4 (.alloc [.int .i64 0, .int .i64 0, .int .i64 0, .slice none 0 0]),
 De (.store 4 (.tmp 4) (.tmp 15))]
def F.B9.r3 : List DOp := [
 Dd 16 (.mv (.tmp 3)),
 Dd 17 (.faddr 1 (.tmp 4)),
 Dd 18 (.load 1 false (.tmp 17)),
 Dd 19 (.call I.A8 [.tmp 16, .tmp 18]),
 Dd 20 (.faddr 2 (.tmp 4)),
 De (.store 1 (.tmp 20) (.tmp 19))]
def F.B9.r4 : List DOp := [
 Dd 21 (.mv (.tmp 3)),
 Dd 22 (.call I.A8 [.tmp 21, .const (.int .i64 8)]),
 Dd 23 (.bin .add (.const (.int .i64 1)) (.tmp 22)),
 Dd 24 (.mv (.const (.int .i64 0)))]
def F.B9.r5 : List DOp := [
 Dd 25 (.bin .lss (.tmp 24) (.tmp 23))]
def F.B9.r6 : List DOp := [
 Dd 26 (.mv (.tmp 3)),
 Dd 27 (.faddr 1 (.tmp 4)),
 Dd 28 (.load 1 false (.tmp 27)),
 Dd 29 (.call I.A8 [.tmp 26, .tmp 28]),
 Dd 30 (.build [.int .i64 0, .slice none 0 0] [(0, 1, .tmp 29)]),
 Dd 5 (.alloc [.int .i64 0, .slice none 0 0]),
 De (.store 2 (.tmp 5) (.tmp 30))]
def F.B9.r7 : List DOp := [
 Dd 31 (.mv (.tmp 3)),
 Dd 32 (.call I.A8 [.tmp 31, .const (.int .i64 4)]),
 Dd 33 (.mv (.const (.int .i64 0)))]
def F.B9.r8 : List DOp := [
 Dd 34 (.bin .lss (.tmp 33) (.tmp 32))]
def F.B9.r9 : List DOp := [
 Dd 35 (.mv (.tmp 3)),
 Dd 36 (.call I.A8 [.tmp 35, .const (.int .i64 2)]),
 Dd 37 (.bin .eql (.tmp 36) (.const (.int .i64 0)))]
def F.B9.r10 : List DOp := [
 Dd 38 (.faddr 1 (.tmp 5)),
 Dd 39 (.load 1 false (.tmp 38)),
 Dd 40 (.mv (.tmp 3)),
 Dd 41 (.faddr 0 (.tmp 4)),
 Dd 42 (.load 1 false (.tmp 41)),
 Dd 43 (.call I.A8 [.tmp 40, .tmp 42]),
 Dd 44 (.build [.bool false, .int .i64 0] [(0, 1, .const (.bool true)), (1, 1, .tmp 43)]),
 Dd 45 (.bslice 2 1 [.bool false, .int .i64 0] [(0, 2, .tmp 44)]),
 Dd 46 (.append 2 16 (.tmp 39) (.tmp 45)),
 Dd 47 (.faddr 1 (.tmp 5)),
 De (.store 1 (.tmp 47) (.tmp 46))]
def F.B9.r11 : List DOp := [
 Dd 48 (.faddr 1 (.tmp 5)),
 Dd 49 (.load 1 false (.tmp 48)),
 Dd 50 (.mv (.tmp 3)),
 Dd 51 (.faddr 1 (.tmp 4)),
 Dd 52 (.load 1 false (.tmp 51)),
 Dd 53 (.call I.A8 [.tmp 50, .tmp 52]),
 Dd 54 (.build [.bool false, .int .i64 0] [(1, 1, .tmp 53)]),
 Dd 55 (.bslice 2 1 [.bool false, .int .i64 0] [(0, 2, .tmp 54)]),
 Dd 56 (.append 2 16 (.tmp 49) (.tmp 55)),
 Dd 57 (.faddr 1 (.tmp 5)),
 De (.store 1 (.tmp 57) (.tmp 56))]
def F.B9.r12 : List DOp := [
 Dd 58 (.bin .add (.tmp 33) (.const (.int .i64 1))),
 Dd 33 (.mv (.tmp 58))]
def F.B9.L1 : ACode := .seq (.region F.B9.r8) (.seq (.cond (.tmp 34) (.skip) (.exit 2)) (.seq (.block 3 (.seq (.region F.B9.r9) (.cond (.tmp 37) (.draw F.B9.r10 [(1, 5)]) (.draw F.B9.r11 [(1, 5)])))) (.region F.B9.r12)))
def F.B9.r13 : List DOp := [
 Dd 59 (.faddr 3 (.tmp 4)),
 Dd 60 (.load 1 false (.tmp 59)),
 Dd 61 (.load 2 true (.tmp 5)),
 Dd 62 (.call I.D2 [.tmp 60, .tmp 61]),
 Dd 63 (.un .not (.tmp 62))]
def F.B9.r14 : List DOp := [
 Dd 64 (.faddr 3 (.tmp 4)),
 Dd 65 (.load 1 false (.tmp 64)),
 Dd 66 (.load 2 true (.tmp 5)),
 Dd 67 (.bslice 2 1 [.int .i64 0, .slice none 0 0] [(0, 2, .tmp 66)]),
 Dd 68 (.append 2 32 (.tmp 65) (.tmp 67)),
 Dd 69 (.faddr 3 (.tmp 4)),
 De (.store 1 (.tmp 69) (.tmp 68))]
def F.B9.r15 : List DOp := [
 Dd 70 (.bin .add (.tmp 24) (.const (.int .i64 1))),
 Dd 24 (.mv (.tmp 70))]
def F.B9.L0 : ACode := .seq (.region F.B9.r5) (.seq (.cond (.tmp 25) (.skip) (.exit 0)) (.seq (.block 1 (.seq (.region F.B9.r6) (.seq (.seq (.region F.B9.r7) (.block 2 (.loop F.B9.L1))) (.seq (.region F.B9.r13) (.cond (.tmp 63) (.region F.B9.r14) (.skip)))))) (.region F.B9.r15)))
def F.B9.r16 : List DOp := [
 Dd 71 (.load 4 true (.tmp 4)),
 De (.store 4 (.tmp 2) (.tmp 71))]
def F.B9.c : ACode := .seq (.region F.B9.r0) (.seq (.region F.B9.r1) (.seq (.region F.B9.r2) (.seq (.region F.B9.r3) (.seq (.seq (.region F.B9.r4) (.block 0 (.loop F.B9.L0))) (.seq (.region F.B9.r16) (.ret))))))
def F.B9 : AFunc := ⟨F.B9.c, [.cell 2 4 true]⟩
def F.F8.r0 : List DOp := [
 Dd 2 (.box (.tmp 0)),
 Dd 4 (.alloc [.int .i64 0, .int .i64 0, .slice none 0 0]),
 Dd 5 (.mv (.const (.bool false)))]
def F.F8.r1 : List DOp := [
 Dd 6 (.alloc [.int .i64 0]),
 De (.store 1 (.tmp 6) (.const (.int .i64 60)))]
def F.F8.r2 : List DOp := [
 Dd 7 (.load 4 true (.tmp 2)),
 Dd 8 (.faddr 2 (.tmp 2)),
 Dd 9 (.load 1 false (.tmp 8)),
 Dd 10 (.build [.bool false, .int .i64 0] [(1, 1, .tmp 9)]),
 Dd 11 (.mv (.tmp 1)),
 Dd 12 (.build [.slice none 0 0] [(0, 1, .tmp 11)]),
 Dd 13 (.box (.tmp 12)),
 Dd 14 (.call I.B6 [.tmp 7, .tmp 10, .tmp 13, .tmp 6, .const (.int .i64 12)]),
 Dd 15 (.extract (.tmp 14) 0),
 Dd 16 (.extract (.tmp 14) 1),
 De (.store 3 (.tmp 4) (.tmp 15)),
 Dd 5 (.mv (.tmp 16))]
def F.F8.c : ACode := .seq (.region F.F8.r0) (.seq (.region F.F8.r1) (.seq (.region F.F8.r2) (.ret)))
def F.F8 : AFunc := ⟨F.F8.c, [.cell 4 3 true, .tmp 5]⟩
def F.A8.r0 : List DOp := [
 Dd 4 (.mv (.const (.int .i64 0)))]
def F.A8.r1 : List DOp := [
 Dd 6 (.mv (.tmp 0)),
 Dd 7 (.nilchk (.tmp 6)),
 Dd 8 (.faddr 0 (.tmp 7)),
 Dd 9 (.load 1 false (.tmp 8)),
 Dd 10 (.len (.tmp 9)),
 Dd 11 (.bin .eql (.tmp 10) (.const (.int .i64 0)))]
def F.A8.r2 : List DOp := [
 Dd 4 (.mv (.const (.int .i64 0)))]
def F.A8.r3 : List DOp := [
 Dd 12 (.mv (.tmp 0)),
 Dd 13 (.nilchk (.tmp 12)),
 Dd 14 (.faddr 0 (.tmp 13)),
 Dd 15 (.load 1 false (.tmp 14)),
 Dd 16 (.idxs 1 (.tmp 15) (.const (.int .i64 0))),
 Dd 17 (.load 1 false (.tmp 16)),
 Dd 5 (.mv (.tmp 17))]
def F.A8.r4 : List DOp := [
 Dd 18 (.mv (.tmp 0)),
 Dd 19 (.mv (.tmp 0)),
 Dd 20 (.nilchk (.tmp 19)),
 Dd 21 (.faddr 0 (.tmp 20)),
 Dd 22 (.load 1 false (.tmp 21)),
 Dd 23 (.slice 1 (.tmp 22) (some (.const (.int .i64 1))) none),
 Dd 24 (.nilchk (.tmp 18)),
 Dd 25 (.faddr 0 (.tmp 24)),
 De (.store 1 (.tmp 25) (.tmp 23))]
def F.A8.r5 : List DOp := [
 Dd 26 (.mv (.tmp 5)),
 Dd 27 (.mv (.tmp 1)),
 Dd 28 (.call I.E3 [.tmp 26, .tmp 27]),
 Dd 4 (.mv (.tmp 28))]
def F.A8.c : ACode := .seq (.region F.A8.r0) (.seq (.seq (.region F.A8.r1) (.cond (.tmp 11) (.seq (.region F.A8.r2) (.ret)) (.skip))) (.seq (.region F.A8.r3) (.seq (.region F.A8.r4) (.seq (.region F.A8.r5) (.ret)))))
def F.A8 : AFunc := ⟨F.A8.c, [.tmp 4]⟩
def F.D2.r0 : List DOp := [
 Dd 3 (.box (.tmp 1)),
 Dd 4 (.mv (.const (.bool false)))]
def F.D2.r1 : List DOp := [
 Dd 9 (.mv (.tmp 0)),
 Dd 10 (.len (.tmp 9)),
 Dd 11 (.mv (.const (.int .i64 0)))]
def F.D2.r2 : List DOp := [
 Dd 12 (.bin .lss (.tmp 11) (.tmp 10))]
def F.D2.r3 : List DOp := [
 Dd 13 (.idxs 2 (.tmp 9) (.tmp 11)),
 Dd 14 (.load 2 true (.tmp 13)),
 Dd 6 (.alloc [.int .i64 0, .slice none 0 0]),
 De (.store 2 (.tmp 6) (.tmp 14))]
def F.D2.r4 : List DOp := [
 Dd 15 (.faddr 0 (.tmp 6)),
 Dd 16 (.load 1 false (.tmp 15)),
 Dd 17 (.faddr 0 (.tmp 3)),
 Dd 18 (.load 1 false (.tmp 17)),
 Dd 19 (.bin .neq (.tmp 16) (.tmp 18)),
 Dd 20 (.mv (.tmp 19)),
 ⟨some 21, .faddr 1 (.tmp 6), (some (20, false)), []⟩,
 ⟨some 22, .load 1 false (.tmp 21), (some (20, false)), []⟩,
 ⟨some 23, .len (.tmp 22), (some (20, false)), []⟩,
 ⟨some 24, .faddr 1 (.tmp 3), (some (20, false)), []⟩,
 ⟨some 25, .load 1 false (.tmp 24), (some (20, false)), []⟩,
 ⟨some 26, .len (.tmp 25), (some (20, false)), []⟩,
 ⟨some 27, .bin .neq (.tmp 23) (.tmp 26), (some (20, false)), []⟩,
 Dd 28 (.pick (.tmp 20) (.const (.bool true)) (.tmp 27))]
def F.D2.r5 : List DOp := [
 Dd 7 (.mv (.const (.bool true)))]
def F.D2.r6 : List DOp := [
 Dd 29 (.faddr 1 (.tmp 6)),
 Dd 30 (.load 1 false (.tmp 29)),
 Dd 31 (.len (.tmp 30)),
 Dd 32 (.mv (.const (.int .i64 0)))]
def F.D2.r7 : List DOp := [
 Dd 33 (.bin .lss (.tmp 32) (.tmp 31))]
def F.D2.r8 : List DOp := [
 Dd 34 (.mv (.tmp 32)),
 Dd 8 (.mv (.tmp 34))]
def F.D2.r9 : List DOp := [
 Dd 35 (.mv (.tmp 7)),
 Dd 36 (.mv (.tmp 35)),
 ⟨some 37, .faddr 1 (.tmp 6), (some (36, true)), []⟩,
 ⟨some 38, .load 1 false (.tmp 37), (some (36, true)), []⟩,
 ⟨some 39, .mv (.tmp 8), (some (36, true)), []⟩,
 ⟨some 40, .idxs 2 (.tmp 38) (.tmp 39), (some (36, true)), []⟩,
 ⟨some 41, .load 2 true (.tmp 40), (some (36, true)), []⟩,
 ⟨some 42, .faddr 1 (.tmp 3), (some (36, true)), []⟩,
 ⟨some 43, .load 1 false (.tmp 42), (some (36, true)), []⟩,
 ⟨some 44, .mv (.tmp 8), (some (36, true)), []⟩,
 ⟨some 45, .idxs 2 (.tmp 43) (.tmp 44), (some (36, true)), []⟩,
 ⟨some 46, .load 2 true (.tmp 45), (some (36, true)), []⟩,
 ⟨some 47, .eq false (.struct [(0, .bool), (1, .int)]) (.tmp 41) (.tmp 46), (some (36, true)), []⟩,
 Dd 48 (.pick (.tmp 36) (.tmp 47) (.const (.bool false))),
 Dd 7 (.mv (.tmp 48))]
def F.D2.r10 : List DOp := [
 Dd 49 (.bin .add (.tmp 32) (.const (.int .i64 1))),
 Dd 32 (.mv (.tmp 49))]
def F.D2.L1 : ACode := .seq (.region F.D2.r7) (.seq (.cond (.tmp 33) (.skip) (.exit 2)) (.seq (.block 3 (.seq (.region F.D2.r8) (.draw F.D2.r9 []))) (.region F.D2.r10)))
def F.D2.r11 : List DOp := [
 Dd 50 (.mv (.tmp 7))]
def F.D2.r12 : List DOp := [
 Dd 4 (.mv (.const (.bool true)))]
def F.D2.r13 : List DOp := [
 Dd 51 (.bin .add (.tmp 11) (.const (.int .i64 1))),
 Dd 11 (.mv (.tmp 51))]
def F.D2.L0 : ACode := .seq (.region F.D2.r2) (.seq (.cond (.tmp 12) (.skip) (.exit 0)) (.seq (.block 1 (.seq (.region F.D2.r3) (.seq (.seq (.region F.D2.r4) (.cond (.tmp 28) (.exit 1) (.skip))) (.seq (.region F.D2.r5) (.seq (.seq (.region F.D2.r6) (.block 2 (.loop F.D2.L1))) (.seq (.region F.D2.r11) (.cond (.tmp 50) (.seq (.region F.D2.r12) (.ret)) (.skip)))))))) (.region F.D2.r13)))
def F.D2.r14 : List DOp := [
 Dd 4 (.mv (.const (.bool false)))]
def F.D2.c : ACode := .seq (.region F.D2.r0) (.seq (.seq (.region F.D2.r1) (.block 0 (.loop F.D2.L0))) (.seq (.region F.D2.r14) (.ret)))
def F.D2 : AFunc := ⟨F.D2.c, [.tmp 4]⟩
def F.E3.r0 : List DOp := [
 Dd 4 (.mv (.const (.int .i64 0)))]
def F.E3.r1 : List DOp := [
 Dd 5 (.mv (.tmp 0)),
 Dd 6 (.mv (.tmp 1)),
 Dd 7 (.bin .rem (.tmp 5) (.tmp 6)),
 Dd 0 (.mv (.tmp 7))]
def F.E3.r2 : List DOp := [
 Dd 8 (.mv (.tmp 0)),
 Dd 9 (.bin .lss (.tmp 8) (.const (.int .i64 0)))]
def F.E3.r3 : List DOp := [
 Dd 10 (.mv (.tmp 0)),
 Dd 11 (.mv (.tmp 1)),
 Dd 12 (.bin .add (.tmp 10) (.tmp 11)),
 Dd 0 (.mv (.tmp 12))]
def F.E3.r4 : List DOp := [
 Dd 13 (.mv (.tmp 0)),
 Dd 4 (.mv (.tmp 13))]
def F.E3.c : ACode := .seq (.region F.E3.r0) (.seq (.region F.E3.r1) (.seq (.seq (.region F.E3.r2) (.cond (.tmp 9) (.region F.E3.r3) (.skip))) (.seq (.region F.E3.r4) (.ret))))
def F.E3 : AFunc := ⟨F.E3.c, [.tmp 4]⟩
def F.B6.r0 : List DOp := [
 Dd 5 (.box (.tmp 0)),
 Dd 6 (.box (.tmp 1)),
 Dd 10 (.alloc [.int .i64 0, .int .i64 0, .slice none 0 0]),
 Dd 11 (.mv (.const (.bool false)))]
def F.B6.r1 : List DOp := [
 Dd 20 (.mv (.tmp 3)),
 Dd 21 (.nilchk (.tmp 20)),
 Dd 22 (.load 1 false (.tmp 21)),
 Dd 23 (.bin .sub (.tmp 22) (.const (.int .i64 1))),
 Dd 24 (.nilchk (.tmp 20)),
 De (.store 1 (.tmp 24) (.tmp 23))]
def F.B6.r2 : List DOp := [
 Dd 25 (.mv (.tmp 3)),
 Dd 26 (.nilchk (.tmp 25)),
 Dd 27 (.load 1 false (.tmp 26)),
 Dd 28 (.bin .lss (.tmp 27) (.const (.int .i64 0))),
 Dd 29 (.mv (.tmp 28)),
 ⟨some 30, .mv (.tmp 4), (some (29, false)), []⟩,
 ⟨some 31, .bin .lss (.tmp 30) (.const (.int .i64 0)), (some (29, false)), []⟩,
 Dd 32 (.pick (.tmp 29) (.const (.bool true)) (.tmp 31))]
def F.B6.r3 : List DOp := [
 Dd 33 (.build [.int .i64 0, .int .i64 0, .slice none 0 0] []),
 De (.store 3 (.tmp 10) (.tmp 33)),
 Dd 11 (.mv (.const (.bool false)))]
def F.B6.r4 : List DOp := [
 Dd 34 (.faddr 0 (.tmp 6)),
 Dd 35 (.load 1 false (.tmp 34))]
def F.B6.r5 : List DOp := [
 Dd 36 (.faddr 1 (.tmp 6)),
 Dd 37 (.load 1 false (.tmp 36)),
 Dd 38 (.build [.int .i64 0, .int .i64 0, .slice none 0 0] [(0, 1, .const (.int .i64 (-1))), (1, 1, .tmp 37)]),
 De (.store 3 (.tmp 10) (.tmp 38)),
 Dd 11 (.mv (.const (.bool true)))]
def F.B6.r6 : List DOp := [
 Dd 12 (.mv (.const (.slice none 0 0)))]
def F.B6.r7 : List DOp := [
 Dd 39 (.faddr 3 (.tmp 5)),
 Dd 40 (.load 1 false (.tmp 39)),
 Dd 41 (.len (.tmp 40)),
 Dd 42 (.mv (.const (.int .i64 0)))]
def F.B6.r8 : List DOp := [
 Dd 43 (.bin .lss (.tmp 42) (.tmp 41))]
def F.B6.r9 : List DOp := [
 Dd 44 (.mv (.tmp 42)),
 Dd 45 (.idxs 2 (.tmp 40) (.tmp 42)),
 Dd 46 (.load 2 true (.tmp 45)),
 Dd 14 (.alloc [.int .i64 0, .slice none 0 0]),
 Dd 13 (.mv (.tmp 44)),
 De (.store 2 (.tmp 14) (.tmp 46))]
def F.B6.r10 : List DOp := [
 Dd 47 (.faddr 0 (.tmp 14)),
 Dd 48 (.load 1 false (.tmp 47)),
 Dd 49 (.faddr 1 (.tmp 6)),
 Dd 50 (.load 1 false (.tmp 49)),
 Dd 51 (.bin .eql (.tmp 48) (.tmp 50))]
def F.B6.r11 : List DOp := [
 Dd 52 (.mv (.tmp 12)),
 Dd 53 (.mv (.tmp 13)),
 Dd 54 (.bslice 1 1 [.int .i64 0] [(0, 1, .tmp 53)]),
 Dd 55 (.append 1 8 (.tmp 52) (.tmp 54)),
 Dd 12 (.mv (.tmp 55))]
def F.B6.r12 : List DOp := [
 Dd 56 (.bin .add (.tmp 42) (.const (.int .i64 1))),
 Dd 42 (.mv (.tmp 56))]
def F.B6.L0 : ACode := .seq (.region F.B6.r8) (.seq (.cond (.tmp 43) (.skip) (.exit 0)) (.seq (.block 1 (.seq (.region F.B6.r9) (.seq (.region F.B6.r10) (.cond (.tmp 51) (.region F.B6.r11) (.skip))))) (.region F.B6.r12)))
def F.B6.r13 : List DOp := [
 Dd 57 (.mv (.tmp 12)),
 Dd 58 (.len (.tmp 57)),
 Dd 59 (.bin .eql (.tmp 58) (.const (.int .i64 0)))]
def F.B6.r14 : List DOp := [
 Dd 60 (.build [.int .i64 0, .int .i64 0, .slice none 0 0] []),
 De (.store 3 (.tmp 10) (.tmp 60)),
 Dd 11 (.mv (.const (.bool false)))]
def F.B6.r15 : List DOp := [
 Dd 61 (.mv (.tmp 12)),
 Dd 62 (.mv (.tmp 2)),
 Dd 63 (.mv (.tmp 12)),
 Dd 64 (.len (.tmp 63)),
 Dd 65 (.call I.A8 [.tmp 62, .tmp 64]),
 Dd 66 (.idxs 1 (.tmp 61) (.tmp 65)),
 Dd 67 (.load 1 false (.tmp 66)),
 Dd 68 (.build [.int .i64 0, .int .i64 0, .slice none 0 0] [(0, 1, .tmp 67)]),
 Dd 15 (.alloc [.int .i64 0, .int .i64 0, .slice none 0 0]),
 De (.store 3 (.tmp 15) (.tmp 68))]
def F.B6.r16 : List DOp := [
 Dd 69 (.faddr 3 (.tmp 5)),
 Dd 70 (.load 1 false (.tmp 69)),
 Dd 71 (.faddr 0 (.tmp 15)),
 Dd 72 (.load 1 false (.tmp 71)),
 Dd 73 (.idxs 2 (.tmp 70) (.tmp 72)),
 Dd 74 (.faddr 1 (.tmp 73)),
 Dd 75 (.load 1 false (.tmp 74)),
 Dd 76 (.len (.tmp 75)),
 Dd 77 (.mv (.const (.int .i64 0)))]
def F.B6.r17 : List DOp := [
 Dd 78 (.bin .lss (.tmp 77) (.tmp 76))]
def F.B6.r18 : List DOp := [
 Dd 79 (.idxs 2 (.tmp 75) (.tmp 77)),
 Dd 80 (.load 2 true (.tmp 79)),
 Dd 17 (.alloc [.bool false, .int .i64 0]),
 De (.store 2 (.tmp 17) (.tmp 80))]
def F.B6.r19 : List DOp := [
 Dd 82 (.load 4 true (.tmp 5)),
 Dd 83 (.load 2 true (.tmp 17)),
 Dd 84 (.mv (.tmp 2)),
 Dd 85 (.mv (.tmp 3)),
 Dd 86 (.mv (.tmp 4)),
 Dd 87 (.bin .sub (.tmp 86) (.const (.int .i64 1))),
 Dd 88 (.call I.B6 [.tmp 82, .tmp 83, .tmp 84, .tmp 85, .tmp 87]),
 Dd 81 (.mv (.tmp 88)),
 Dd 89 (.extract (.tmp 81) 0),
 Dd 90 (.extract (.tmp 81) 1),
 Dd 18 (.alloc [.int .i64 0, .int .i64 0, .slice none 0 0]),
 De (.store 3 (.tmp 18) (.tmp 89)),
 Dd 19 (.mv (.tmp 90))]
def F.B6.r20 : List DOp := [
 Dd 91 (.mv (.tmp 19)),
 Dd 92 (.un .not (.tmp 91))]
def F.B6.r21 : List DOp := [
 Dd 93 (.build [.int .i64 0, .int .i64 0, .slice none 0 0] []),
 De (.store 3 (.tmp 10) (.tmp 93)),
 Dd 11 (.mv (.const (.bool false)))]
def F.B6.r22 : List DOp := [
 Dd 94 (.faddr 2 (.tmp 15)),
 Dd 95 (.load 1 false (.tmp 94)),
 Dd 96 (.load 3 true (.tmp 18)),
 Dd 97 (.bslice 3 1 [.int .i64 0, .int .i64 0, .slice none 0 0] [(0, 3, .tmp 96)]),
 Dd 98 (.append 3 40 (.tmp 95) (.tmp 97)),
 Dd 99 (.faddr 2 (.tmp 15)),
 De (.store 1 (.tmp 99) (.tmp 98))]
def F.B6.r23 : List DOp := [
 Dd 100 (.bin .add (.tmp 77) (.const (.int .i64 1))),
 Dd 77 (.mv (.tmp 100))]
def F.B6.L1 : ACode := .seq (.region F.B6.r17) (.seq (.cond (.tmp 78) (.skip) (.exit 2)) (.seq (.block 3 (.seq (.region F.B6.r18) (.seq (.region F.B6.r19) (.seq (.seq (.region F.B6.r20) (.cond (.tmp 92) (.seq (.region F.B6.r21) (.ret)) (.skip))) (.region F.B6.r22))))) (.region F.B6.r23)))
def F.B6.r24 : List DOp := [
 Dd 101 (.load 3 true (.tmp 15)),
 De (.store 3 (.tmp 10) (.tmp 101)),
 Dd 11 (.mv (.const (.bool true)))]
def F.B6.c : ACode := .seq (.region F.B6.r0) (.seq (.seq (.region F.B6.r1) (.seq (.region F.B6.r2) (.cond (.tmp 32) (.seq (.region F.B6.r3) (.ret)) (.skip)))) (.seq (.seq (.region F.B6.r4) (.cond (.tmp 35) (.seq (.region F.B6.r5) (.ret)) (.skip))) (.seq (.region F.B6.r6) (.seq (.seq (.region F.B6.r7) (.block 0 (.loop F.B6.L0))) (.seq (.seq (.region F.B6.r13) (.cond (.tmp 59) (.seq (.region F.B6.r14) (.ret)) (.skip))) (.seq (.region F.B6.r15) (.seq (.seq (.region F.B6.r16) (.block 2 (.loop F.B6.L1))) (.seq (.region F.B6.r24) (.ret)))))))))
def F.B6 : AFunc := ⟨F.B6.c, [.cell 10 3 true, .tmp 11]⟩
end Go.Proofs.Ytmeigkelacoibaa
