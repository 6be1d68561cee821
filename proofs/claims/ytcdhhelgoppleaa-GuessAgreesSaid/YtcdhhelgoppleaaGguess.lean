/- The abstract code of package guess, written by wip/tools/gen.py from the translation. -/
import Derived.Test.YtcdhhelgoppleaaI
namespace Go.Proofs.Ytcdhhelgoppleaa
open Go Go.Ab
/-! parlance/guess.Of -/
def F.guess_Of.r0 : List DOp := [
 Dd 8 (.alloc [.int .i64 0, .int .i64 0, .int .i64 0, .slice none 0 0]),
 Dd 9 (.mv (.const (.int .i64 0)))]
def F.guess_Of.r1 : List DOp := [
 Dd 19 (.mv (.tmp 0)),
 Dd 20 (.mv (.tmp 1)),
 Dd 21 (.call I.guess_Rules [.tmp 19, .tmp 20]),
 Dd 18 (.mv (.tmp 21)),
 Dd 22 (.extract (.tmp 18) 0),
 Dd 23 (.extract (.tmp 18) 1),
 Dd 10 (.mv (.tmp 22)),
 Dd 11 (.mv (.tmp 23))]
def F.guess_Of.r2 : List DOp := [
 Dd 24 (.mv (.tmp 11)),
 Dd 25 (.bin .neq (.tmp 24) (.const (.int .i64 0)))]
def F.guess_Of.r3 : List DOp := [
 Dd 26 (.build [.int .i64 0, .int .i64 0, .int .i64 0, .slice none 0 0] []),
 Dd 27 (.mv (.tmp 11)),
 De (.store 4 (.tmp 8) (.tmp 26)),
 Dd 9 (.mv (.tmp 27))]
def F.guess_Of.r4 : List DOp := [
 Dd 28 (.mv (.tmp 0)),
 Dd 29 (.mv (.tmp 2)),
 Dd 30 (.mv (.tmp 3)),
 Dd 31 (.call I.guess_Check [.tmp 28, .tmp 29, .tmp 30]),
 Dd 12 (.mv (.tmp 31))]
def F.guess_Of.r5 : List DOp := [
 Dd 32 (.mv (.tmp 12)),
 Dd 33 (.bin .neq (.tmp 32) (.const (.int .i64 0)))]
def F.guess_Of.r6 : List DOp := [
 Dd 34 (.build [.int .i64 0, .int .i64 0, .int .i64 0, .slice none 0 0] []),
 Dd 35 (.mv (.tmp 12)),
 De (.store 4 (.tmp 8) (.tmp 34)),
 Dd 9 (.mv (.tmp 35))]
def F.guess_Of.r7 : List DOp := [
 Dd 36 (.mv (.const (.int .i64 0)))]
def F.guess_Of.r8 : List DOp := [
 Dd 37 (.bin .lss (.tmp 36) (.const (.int .i64 4)))]
def F.guess_Of.r9 : List DOp := [
 Dd 38 (.mv (.tmp 36)),
 Dd 13 (.mv (.tmp 38))]
def F.guess_Of.r10 : List DOp := [
 Dd 39 (.mv (.tmp 13)),
 Dd 40 (.call I.guess_first [.tmp 39]),
 Dd 14 (.mv (.tmp 40))]
def F.guess_Of.r11 : List DOp := [
 Dd 41 (.mv (.tmp 14)),
 Dd 42 (.eq true .slice (.tmp 41) (.const (.slice none 0 0)))]
def F.guess_Of.r13 : List DOp := [
 Dd 47 (.mv (.tmp 0)),
 Dd 48 (.mv (.tmp 1)),
 Dd 49 (.build [.int .i64 0, .int .i64 0, .int .i64 0, .slice none 0 0] [(0, 1, .tmp 47), (1, 1, .tmp 48)]),
 Dd 15 (.alloc [.int .i64 0, .int .i64 0, .int .i64 0, .slice none 0 0]),
 De (.store 4 (.tmp 15) (.tmp 49))]
def F.guess_Of.r14 : List DOp := [
 Dd 50 (.mv (.tmp 14)),
 Dd 51 (.len (.tmp 50)),
 Dd 52 (.mv (.const (.int .i64 0)))]
def F.guess_Of.r15 : List DOp := [
 Dd 53 (.bin .lss (.tmp 52) (.tmp 51))]
def F.guess_Of.r16 : List DOp := [
 Dd 54 (.idxs 1 (.tmp 50) (.tmp 52)),
 Dd 55 (.load 1 false (.tmp 54)),
 Dd 17 (.mv (.tmp 55))]
def F.guess_Of.r17 : List DOp := [
 Dd 56 (.faddr 3 (.tmp 15)),
 Dd 57 (.load 1 false (.tmp 56)),
 Dd 58 (.mv (.tmp 10)),
 Dd 59 (.mv (.tmp 17)),
 Dd 60 (.idxs 2 (.tmp 58) (.tmp 59)),
 Dd 61 (.faddr 0 (.tmp 60)),
 Dd 62 (.load 1 false (.tmp 61)),
 Dd 63 (.mv (.tmp 10)),
 Dd 64 (.mv (.tmp 17)),
 Dd 65 (.idxs 2 (.tmp 63) (.tmp 64)),
 Dd 66 (.faddr 1 (.tmp 65)),
 Dd 67 (.load 1 false (.tmp 66)),
 Dd 68 (.call I.slices_Clone_api_Sym_api_Sym [.tmp 67]),
 Dd 69 (.build [.int .i64 0, .slice none 0 0] [(0, 1, .tmp 62), (1, 1, .tmp 68)]),
 Dd 70 (.bslice 2 1 [.int .i64 0, .slice none 0 0] [(0, 2, .tmp 69)]),
 Dd 71 (.append 2 32 (.tmp 57) (.tmp 70)),
 Dd 72 (.faddr 3 (.tmp 15)),
 De (.store 1 (.tmp 72) (.tmp 71))]
def F.guess_Of.r18 : List DOp := [
 Dd 73 (.bin .add (.tmp 52) (.const (.int .i64 1))),
 Dd 52 (.mv (.tmp 73))]
def F.guess_Of.L2 : ACode := .seq (.region F.guess_Of.r15) (.seq (.cond (.tmp 53) (.skip) (.exit 4)) (.seq (.block 5 (.seq (.region F.guess_Of.r16) (.draw F.guess_Of.r17 [(1, 12), (6, 12)]))) (.region F.guess_Of.r18)))
def F.guess_Of.r19 : List DOp := [
 Dd 74 (.load 4 true (.tmp 15)),
 Dd 75 (.mv (.tmp 2)),
 Dd 76 (.mv (.tmp 3)),
 Dd 77 (.call I.guess_agrees [.tmp 74, .tmp 75, .tmp 76])]
def F.guess_Of.r20 : List DOp := [
 Dd 78 (.load 4 true (.tmp 15)),
 De (.store 4 (.tmp 8) (.tmp 78)),
 Dd 9 (.mv (.const (.int .i64 0)))]
def F.guess_Of.r12 : List DOp := [
 Dd 43 (.mv (.tmp 14)),
 Dd 44 (.mv (.tmp 10)),
 Dd 45 (.len (.tmp 44)),
 Dd 46 (.call I.guess_next [.tmp 43, .tmp 45]),
 Dd 14 (.mv (.tmp 46))]
def F.guess_Of.L1 : ACode := .seq (.seq (.region F.guess_Of.r11) (.cond (.tmp 42) (.skip) (.exit 2))) (.seq (.block 3 (.seq (.region F.guess_Of.r13) (.seq (.seq (.region F.guess_Of.r14) (.block 4 (.loop F.guess_Of.L2))) (.seq (.region F.guess_Of.r19) (.cond (.tmp 77) (.seq (.region F.guess_Of.r20) (.ret)) (.skip)))))) (.region F.guess_Of.r12))
def F.guess_Of.r21 : List DOp := [
 Dd 79 (.bin .add (.tmp 36) (.const (.int .i64 1))),
 Dd 36 (.mv (.tmp 79))]
def F.guess_Of.L0 : ACode := .seq (.region F.guess_Of.r8) (.seq (.cond (.tmp 37) (.skip) (.exit 0)) (.seq (.block 1 (.seq (.region F.guess_Of.r9) (.seq (.region F.guess_Of.r10) (.block 2 (.loop F.guess_Of.L1))))) (.region F.guess_Of.r21)))
def F.guess_Of.r22 : List DOp := [
 Dd 80 (.build [.int .i64 0, .int .i64 0, .int .i64 0, .slice none 0 0] []),
 De (.store 4 (.tmp 8) (.tmp 80)),
 Dd 9 (.mv (.const (.int .i64 5)))]
def F.guess_Of.c : ACode := .seq (.region F.guess_Of.r0) (.seq (.region F.guess_Of.r1) (.seq (.seq (.region F.guess_Of.r2) (.cond (.tmp 25) (.seq (.region F.guess_Of.r3) (.ret)) (.skip))) (.seq (.seq (.region F.guess_Of.r4) (.seq (.region F.guess_Of.r5) (.cond (.tmp 33) (.seq (.region F.guess_Of.r6) (.ret)) (.skip)))) (.seq (.seq (.region F.guess_Of.r7) (.block 0 (.loop F.guess_Of.L0))) (.seq (.region F.guess_Of.r22) (.ret))))))
def F.guess_Of : AFunc := ⟨F.guess_Of.c, [.cell 8 4 true, .tmp 9]⟩
/-! parlance/guess.Rules -/
def F.guess_Rules.r0 : List DOp := [
 Dd 4 (.mv (.const (.slice none 0 0))),
 Dd 5 (.mv (.const (.int .i64 0)))]
def F.guess_Rules.r1 : List DOp := [
 Dd 17 (.mv (.tmp 0)),
 Dd 18 (.bin .lss (.tmp 17) (.const (.int .i64 1))),
 Dd 19 (.mv (.tmp 18)),
 ⟨some 20, .mv (.tmp 0), (some (19, false)), []⟩,
 ⟨some 21, .bin .gtr (.tmp 20) (.const (.int .i64 2)), (some (19, false)), []⟩,
 Dd 22 (.pick (.tmp 19) (.const (.bool true)) (.tmp 21)),
 Dd 23 (.mv (.tmp 22)),
 ⟨some 24, .mv (.tmp 1), (some (23, false)), []⟩,
 ⟨some 25, .bin .lss (.tmp 24) (.const (.int .i64 1)), (some (23, false)), []⟩,
 Dd 26 (.pick (.tmp 23) (.const (.bool true)) (.tmp 25)),
 Dd 27 (.mv (.tmp 26)),
 ⟨some 28, .mv (.tmp 1), (some (27, false)), []⟩,
 ⟨some 29, .bin .gtr (.tmp 28) (.const (.int .i64 2)), (some (27, false)), []⟩,
 Dd 30 (.pick (.tmp 27) (.const (.bool true)) (.tmp 29))]
def F.guess_Rules.r2 : List DOp := [
 Dd 4 (.mv (.const (.slice none 0 0))),
 Dd 5 (.mv (.const (.int .i64 1)))]
def F.guess_Rules.r3 : List DOp := [
 Dd 6 (.mv (.const (.slice none 0 0)))]
def F.guess_Rules.r4 : List DOp := [
 Dd 31 (.mv (.tmp 0)),
 Dd 32 (.mv (.const (.int .i64 0)))]
def F.guess_Rules.r5 : List DOp := [
 Dd 33 (.bin .lss (.tmp 32) (.tmp 31))]
def F.guess_Rules.r6 : List DOp := [
 Dd 34 (.mv (.tmp 32)),
 Dd 7 (.mv (.tmp 34))]
def F.guess_Rules.r7 : List DOp := [
 Dd 35 (.mv (.tmp 6)),
 Dd 36 (.mv (.tmp 7)),
 Dd 37 (.build [.bool false, .int .i64 0] [(0, 1, .const (.bool true)), (1, 1, .tmp 36)]),
 Dd 38 (.bslice 2 1 [.bool false, .int .i64 0] [(0, 2, .tmp 37)]),
 Dd 39 (.append 2 16 (.tmp 35) (.tmp 38)),
 Dd 6 (.mv (.tmp 39))]
def F.guess_Rules.r8 : List DOp := [
 Dd 40 (.bin .add (.tmp 32) (.const (.int .i64 1))),
 Dd 32 (.mv (.tmp 40))]
def F.guess_Rules.L0 : ACode := .seq (.region F.guess_Rules.r5) (.seq (.cond (.tmp 33) (.skip) (.exit 0)) (.seq (.block 1 (.seq (.region F.guess_Rules.r6) (.region F.guess_Rules.r7))) (.region F.guess_Rules.r8)))
def F.guess_Rules.r9 : List DOp := [
 Dd 41 (.mv (.tmp 1)),
 Dd 42 (.mv (.const (.int .i64 0)))]
def F.guess_Rules.r10 : List DOp := [
 Dd 43 (.bin .lss (.tmp 42) (.tmp 41))]
def F.guess_Rules.r11 : List DOp := [
 Dd 44 (.mv (.tmp 42)),
 Dd 8 (.mv (.tmp 44))]
def F.guess_Rules.r12 : List DOp := [
 Dd 45 (.mv (.tmp 6)),
 Dd 46 (.mv (.tmp 8)),
 Dd 47 (.build [.bool false, .int .i64 0] [(1, 1, .tmp 46)]),
 Dd 48 (.bslice 2 1 [.bool false, .int .i64 0] [(0, 2, .tmp 47)]),
 Dd 49 (.append 2 16 (.tmp 45) (.tmp 48)),
 Dd 6 (.mv (.tmp 49))]
def F.guess_Rules.r13 : List DOp := [
 Dd 50 (.bin .add (.tmp 42) (.const (.int .i64 1))),
 Dd 42 (.mv (.tmp 50))]
def F.guess_Rules.L1 : ACode := .seq (.region F.guess_Rules.r10) (.seq (.cond (.tmp 43) (.skip) (.exit 2)) (.seq (.block 3 (.seq (.region F.guess_Rules.r11) (.region F.guess_Rules.r12))) (.region F.guess_Rules.r13)))
def F.guess_Rules.r14 : List DOp := [
 Dd 9 (.mv (.const (.slice none 0 0)))]
def F.guess_Rules.r15 : List DOp := [
 Dd 51 (.mv (.tmp 1)),
 Dd 52 (.mv (.const (.int .i64 0)))]
def F.guess_Rules.r16 : List DOp := [
 Dd 53 (.bin .lss (.tmp 52) (.tmp 51))]
def F.guess_Rules.r17 : List DOp := [
 Dd 54 (.mv (.tmp 52)),
 Dd 10 (.mv (.tmp 54))]
def F.guess_Rules.r18 : List DOp := [
 Dd 55 (.mv (.tmp 9)),
 Dd 56 (.mv (.tmp 10)),
 Dd 57 (.build [.int .i64 0, .slice none 0 0] [(0, 1, .tmp 56)]),
 Dd 58 (.bslice 2 1 [.int .i64 0, .slice none 0 0] [(0, 2, .tmp 57)]),
 Dd 59 (.append 2 32 (.tmp 55) (.tmp 58)),
 Dd 9 (.mv (.tmp 59))]
def F.guess_Rules.r19 : List DOp := [
 Dd 60 (.mv (.tmp 6)),
 Dd 61 (.len (.tmp 60)),
 Dd 62 (.mv (.const (.int .i64 0)))]
def F.guess_Rules.r20 : List DOp := [
 Dd 63 (.bin .lss (.tmp 62) (.tmp 61))]
def F.guess_Rules.r21 : List DOp := [
 Dd 64 (.idxs 2 (.tmp 60) (.tmp 62)),
 Dd 65 (.load 2 true (.tmp 64)),
 Dd 12 (.alloc [.bool false, .int .i64 0]),
 De (.store 2 (.tmp 12) (.tmp 65))]
def F.guess_Rules.r22 : List DOp := [
 Dd 66 (.mv (.tmp 9)),
 Dd 67 (.mv (.tmp 10)),
 Dd 68 (.load 2 true (.tmp 12)),
 Dd 69 (.bslice 2 1 [.bool false, .int .i64 0] [(0, 2, .tmp 68)]),
 Dd 70 (.build [.int .i64 0, .slice none 0 0] [(0, 1, .tmp 67), (1, 1, .tmp 69)]),
 Dd 71 (.bslice 2 1 [.int .i64 0, .slice none 0 0] [(0, 2, .tmp 70)]),
 Dd 72 (.append 2 32 (.tmp 66) (.tmp 71)),
 Dd 9 (.mv (.tmp 72))]
def F.guess_Rules.r23 : List DOp := [
 Dd 73 (.bin .add (.tmp 62) (.const (.int .i64 1))),
 Dd 62 (.mv (.tmp 73))]
def F.guess_Rules.L3 : ACode := .seq (.region F.guess_Rules.r20) (.seq (.cond (.tmp 63) (.skip) (.exit 6)) (.seq (.block 7 (.seq (.region F.guess_Rules.r21) (.region F.guess_Rules.r22))) (.region F.guess_Rules.r23)))
def F.guess_Rules.r24 : List DOp := [
 Dd 74 (.mv (.tmp 6)),
 Dd 75 (.len (.tmp 74)),
 Dd 76 (.mv (.const (.int .i64 0)))]
def F.guess_Rules.r25 : List DOp := [
 Dd 77 (.bin .lss (.tmp 76) (.tmp 75))]
def F.guess_Rules.r26 : List DOp := [
 Dd 78 (.idxs 2 (.tmp 74) (.tmp 76)),
 Dd 79 (.load 2 true (.tmp 78)),
 Dd 14 (.alloc [.bool false, .int .i64 0]),
 De (.store 2 (.tmp 14) (.tmp 79))]
def F.guess_Rules.r27 : List DOp := [
 Dd 80 (.mv (.tmp 6)),
 Dd 81 (.len (.tmp 80)),
 Dd 82 (.mv (.const (.int .i64 0)))]
def F.guess_Rules.r28 : List DOp := [
 Dd 83 (.bin .lss (.tmp 82) (.tmp 81))]
def F.guess_Rules.r29 : List DOp := [
 Dd 84 (.idxs 2 (.tmp 80) (.tmp 82)),
 Dd 85 (.load 2 true (.tmp 84)),
 Dd 16 (.alloc [.bool false, .int .i64 0]),
 De (.store 2 (.tmp 16) (.tmp 85))]
def F.guess_Rules.r30 : List DOp := [
 Dd 86 (.mv (.tmp 9)),
 Dd 87 (.mv (.tmp 10)),
 Dd 88 (.load 2 true (.tmp 14)),
 Dd 89 (.load 2 true (.tmp 16)),
 Dd 90 (.bslice 2 2 [.bool false, .int .i64 0, .bool false, .int .i64 0] [(0, 2, .tmp 88), (2, 2, .tmp 89)]),
 Dd 91 (.build [.int .i64 0, .slice none 0 0] [(0, 1, .tmp 87), (1, 1, .tmp 90)]),
 Dd 92 (.bslice 2 1 [.int .i64 0, .slice none 0 0] [(0, 2, .tmp 91)]),
 Dd 93 (.append 2 32 (.tmp 86) (.tmp 92)),
 Dd 9 (.mv (.tmp 93))]
def F.guess_Rules.r31 : List DOp := [
 Dd 94 (.bin .add (.tmp 82) (.const (.int .i64 1))),
 Dd 82 (.mv (.tmp 94))]
def F.guess_Rules.L5 : ACode := .seq (.region F.guess_Rules.r28) (.seq (.cond (.tmp 83) (.skip) (.exit 10)) (.seq (.block 11 (.seq (.region F.guess_Rules.r29) (.region F.guess_Rules.r30))) (.region F.guess_Rules.r31)))
def F.guess_Rules.r32 : List DOp := [
 Dd 95 (.bin .add (.tmp 76) (.const (.int .i64 1))),
 Dd 76 (.mv (.tmp 95))]
def F.guess_Rules.L4 : ACode := .seq (.region F.guess_Rules.r25) (.seq (.cond (.tmp 77) (.skip) (.exit 8)) (.seq (.block 9 (.seq (.region F.guess_Rules.r26) (.seq (.region F.guess_Rules.r27) (.block 10 (.loop F.guess_Rules.L5))))) (.region F.guess_Rules.r32)))
def F.guess_Rules.r33 : List DOp := [
 Dd 96 (.bin .add (.tmp 52) (.const (.int .i64 1))),
 Dd 52 (.mv (.tmp 96))]
def F.guess_Rules.L2 : ACode := .seq (.region F.guess_Rules.r16) (.seq (.cond (.tmp 53) (.skip) (.exit 4)) (.seq (.block 5 (.seq (.region F.guess_Rules.r17) (.seq (.region F.guess_Rules.r18) (.seq (.seq (.region F.guess_Rules.r19) (.block 6 (.loop F.guess_Rules.L3))) (.seq (.region F.guess_Rules.r24) (.block 8 (.loop F.guess_Rules.L4))))))) (.region F.guess_Rules.r33)))
def F.guess_Rules.r34 : List DOp := [
 Dd 97 (.mv (.tmp 9)),
 Dd 4 (.mv (.tmp 97)),
 Dd 5 (.mv (.const (.int .i64 0)))]
def F.guess_Rules.c : ACode := .seq (.region F.guess_Rules.r0) (.seq (.seq (.region F.guess_Rules.r1) (.cond (.tmp 30) (.seq (.region F.guess_Rules.r2) (.ret)) (.skip))) (.seq (.region F.guess_Rules.r3) (.seq (.seq (.region F.guess_Rules.r4) (.block 0 (.loop F.guess_Rules.L0))) (.seq (.seq (.region F.guess_Rules.r9) (.block 2 (.loop F.guess_Rules.L1))) (.seq (.region F.guess_Rules.r14) (.seq (.seq (.region F.guess_Rules.r15) (.block 4 (.loop F.guess_Rules.L2))) (.seq (.region F.guess_Rules.r34) (.ret))))))))
def F.guess_Rules : AFunc := ⟨F.guess_Rules.c, [.tmp 4, .tmp 5]⟩
/-! parlance/guess.Check -/
def F.guess_Check.r0 : List DOp := [
 Dd 6 (.mv (.const (.int .i64 0)))]
def F.guess_Check.r1 : List DOp := [
 Dd 13 (.mv (.tmp 1)),
 Dd 14 (.len (.tmp 13)),
 Dd 15 (.bin .gtr (.tmp 14) (.const (.int .i64 6))),
 Dd 16 (.mv (.tmp 15)),
 ⟨some 17, .mv (.tmp 2), (some (16, false)), []⟩,
 ⟨some 18, .len (.tmp 17), (some (16, false)), []⟩,
 ⟨some 19, .bin .gtr (.tmp 18) (.const (.int .i64 6)), (some (16, false)), []⟩,
 Dd 20 (.pick (.tmp 16) (.const (.bool true)) (.tmp 19))]
def F.guess_Check.r2 : List DOp := [
 Dd 6 (.mv (.const (.int .i64 2)))]
def F.guess_Check.r3 : List DOp := [
 Dd 21 (.mv (.tmp 1)),
 Dd 22 (.mv (.tmp 2)),
 Dd 23 (.bslice 1 2 [.slice none 0 0, .slice none 0 0] [(0, 1, .tmp 21), (1, 1, .tmp 22)]),
 Dd 24 (.call I.slices_Concat_int_int [.tmp 23]),
 Dd 25 (.len (.tmp 24)),
 Dd 26 (.mv (.const (.int .i64 0)))]
def F.guess_Check.r4 : List DOp := [
 Dd 27 (.bin .lss (.tmp 26) (.tmp 25))]
def F.guess_Check.r5 : List DOp := [
 Dd 28 (.idxs 1 (.tmp 24) (.tmp 26)),
 Dd 29 (.load 1 false (.tmp 28)),
 Dd 8 (.mv (.tmp 29))]
def F.guess_Check.r6 : List DOp := [
 Dd 30 (.mv (.tmp 8)),
 Dd 31 (.len (.tmp 30)),
 Dd 32 (.bin .gtr (.tmp 31) (.const (.int .i64 5)))]
def F.guess_Check.r7 : List DOp := [
 Dd 6 (.mv (.const (.int .i64 2)))]
def F.guess_Check.r8 : List DOp := [
 Dd 33 (.mv (.tmp 8)),
 Dd 34 (.len (.tmp 33)),
 Dd 35 (.mv (.const (.int .i64 0)))]
def F.guess_Check.r9 : List DOp := [
 Dd 36 (.bin .lss (.tmp 35) (.tmp 34))]
def F.guess_Check.r10 : List DOp := [
 Dd 37 (.idxs 1 (.tmp 33) (.tmp 35)),
 Dd 38 (.load 1 false (.tmp 37)),
 Dd 10 (.mv (.tmp 38))]
def F.guess_Check.r11 : List DOp := [
 Dd 39 (.mv (.tmp 10)),
 Dd 40 (.bin .lss (.tmp 39) (.const (.int .i64 0))),
 Dd 41 (.mv (.tmp 40)),
 ⟨some 42, .mv (.tmp 10), (some (41, false)), []⟩,
 ⟨some 43, .mv (.tmp 0), (some (41, false)), []⟩,
 ⟨some 44, .bin .geq (.tmp 42) (.tmp 43), (some (41, false)), []⟩,
 Dd 45 (.pick (.tmp 41) (.const (.bool true)) (.tmp 44))]
def F.guess_Check.r12 : List DOp := [
 Dd 6 (.mv (.const (.int .i64 1)))]
def F.guess_Check.r13 : List DOp := [
 Dd 46 (.bin .add (.tmp 35) (.const (.int .i64 1))),
 Dd 35 (.mv (.tmp 46))]
def F.guess_Check.L1 : ACode := .seq (.region F.guess_Check.r9) (.seq (.cond (.tmp 36) (.skip) (.exit 2)) (.seq (.block 3 (.seq (.region F.guess_Check.r10) (.seq (.region F.guess_Check.r11) (.cond (.tmp 45) (.seq (.region F.guess_Check.r12) (.ret)) (.skip))))) (.region F.guess_Check.r13)))
def F.guess_Check.r14 : List DOp := [
 Dd 47 (.bin .add (.tmp 26) (.const (.int .i64 1))),
 Dd 26 (.mv (.tmp 47))]
def F.guess_Check.L0 : ACode := .seq (.region F.guess_Check.r4) (.seq (.cond (.tmp 27) (.skip) (.exit 0)) (.seq (.block 1 (.seq (.region F.guess_Check.r5) (.seq (.seq (.region F.guess_Check.r6) (.cond (.tmp 32) (.seq (.region F.guess_Check.r7) (.ret)) (.skip))) (.seq (.region F.guess_Check.r8) (.block 2 (.loop F.guess_Check.L1)))))) (.region F.guess_Check.r14)))
def F.guess_Check.r15 : List DOp := [
 Dd 48 (.mv (.tmp 2)),
 Dd 49 (.len (.tmp 48)),
 Dd 50 (.mv (.const (.int .i64 0)))]
def F.guess_Check.r16 : List DOp := [
 Dd 51 (.bin .lss (.tmp 50) (.tmp 49))]
def F.guess_Check.r17 : List DOp := [
 Dd 52 (.idxs 1 (.tmp 48) (.tmp 50)),
 Dd 53 (.load 1 false (.tmp 52)),
 Dd 12 (.alloc [.slice none 0 0]),
 De (.store 1 (.tmp 12) (.tmp 53))]
def F.guess_Check.r18 : List DOp := [
 Dd 54 (.mv (.tmp 1)),
 Dd 55 (.mkfn (.func I.guess_Check_1) [.tmp 12]),
 Dd 56 (.call I.slices_ContainsFunc_int_int_26 [.tmp 54, .tmp 55])]
def F.guess_Check.r19 : List DOp := [
 Dd 6 (.mv (.const (.int .i64 8)))]
def F.guess_Check.r20 : List DOp := [
 Dd 57 (.bin .add (.tmp 50) (.const (.int .i64 1))),
 Dd 50 (.mv (.tmp 57))]
def F.guess_Check.L2 : ACode := .seq (.region F.guess_Check.r16) (.seq (.cond (.tmp 51) (.skip) (.exit 4)) (.seq (.block 5 (.seq (.region F.guess_Check.r17) (.seq (.region F.guess_Check.r18) (.cond (.tmp 56) (.seq (.region F.guess_Check.r19) (.ret)) (.skip))))) (.region F.guess_Check.r20)))
def F.guess_Check.r21 : List DOp := [
 Dd 6 (.mv (.const (.int .i64 0)))]
def F.guess_Check.c : ACode := .seq (.region F.guess_Check.r0) (.seq (.seq (.region F.guess_Check.r1) (.cond (.tmp 20) (.seq (.region F.guess_Check.r2) (.ret)) (.skip))) (.seq (.seq (.region F.guess_Check.r3) (.block 0 (.loop F.guess_Check.L0))) (.seq (.seq (.region F.guess_Check.r15) (.block 4 (.loop F.guess_Check.L2))) (.seq (.region F.guess_Check.r21) (.ret)))))
def F.guess_Check : AFunc := ⟨F.guess_Check.c, [.tmp 6]⟩
/-! parlance/guess.first -/
def F.guess_first.r0 : List DOp := [
 Dd 2 (.mv (.const (.slice none 0 0)))]
def F.guess_first.r1 : List DOp := [
 Dd 5 (.mv (.tmp 0)),
 Dd 6 (.mkslice 1 8 [.int .i64 0] (.const (.int .i64 0)) (.tmp 5)),
 Dd 3 (.mv (.tmp 6))]
def F.guess_first.r2 : List DOp := [
 Dd 7 (.mv (.tmp 0)),
 Dd 8 (.mv (.const (.int .i64 0)))]
def F.guess_first.r3 : List DOp := [
 Dd 9 (.bin .lss (.tmp 8) (.tmp 7))]
def F.guess_first.r4 : List DOp := [
 Dd 10 (.mv (.tmp 8)),
 Dd 4 (.mv (.tmp 10))]
def F.guess_first.r5 : List DOp := [
 Dd 11 (.mv (.tmp 3)),
 Dd 12 (.mv (.tmp 4)),
 Dd 13 (.bslice 1 1 [.int .i64 0] [(0, 1, .tmp 12)]),
 Dd 14 (.append 1 8 (.tmp 11) (.tmp 13)),
 Dd 3 (.mv (.tmp 14))]
def F.guess_first.r6 : List DOp := [
 Dd 15 (.bin .add (.tmp 8) (.const (.int .i64 1))),
 Dd 8 (.mv (.tmp 15))]
def F.guess_first.L0 : ACode := .seq (.region F.guess_first.r3) (.seq (.cond (.tmp 9) (.skip) (.exit 0)) (.seq (.block 1 (.seq (.region F.guess_first.r4) (.region F.guess_first.r5))) (.region F.guess_first.r6)))
def F.guess_first.r7 : List DOp := [
 Dd 16 (.mv (.tmp 3)),
 Dd 2 (.mv (.tmp 16))]
def F.guess_first.c : ACode := .seq (.region F.guess_first.r0) (.seq (.region F.guess_first.r1) (.seq (.seq (.region F.guess_first.r2) (.block 0 (.loop F.guess_first.L0))) (.seq (.region F.guess_first.r7) (.ret))))
def F.guess_first : AFunc := ⟨F.guess_first.c, [.tmp 2]⟩
/-! parlance/guess.next -/
def F.guess_next.r0 : List DOp := [
 Dd 4 (.mv (.const (.slice none 0 0)))]
def F.guess_next.r1 : List DOp := [
 Dd 7 (.mv (.tmp 0)),
 Dd 8 (.call I.slices_Clone_int_int [.tmp 7]),
 Dd 0 (.mv (.tmp 8))]
def F.guess_next.r2 : List DOp := [
 Dd 9 (.mv (.tmp 0)),
 Dd 10 (.len (.tmp 9)),
 Dd 11 (.bin .sub (.tmp 10) (.const (.int .i64 1))),
 Dd 5 (.mv (.tmp 11))]
def F.guess_next.r3 : List DOp := [
 Dd 12 (.mv (.tmp 5)),
 Dd 13 (.bin .geq (.tmp 12) (.const (.int .i64 0)))]
def F.guess_next.r5 : List DOp := [
 Dd 16 (.mv (.tmp 0)),
 Dd 17 (.mv (.tmp 5)),
 Dd 18 (.idxs 1 (.tmp 16) (.tmp 17)),
 Dd 19 (.load 1 false (.tmp 18)),
 Dd 20 (.bin .add (.tmp 19) (.const (.int .i64 1))),
 Dd 21 (.idxs 1 (.tmp 16) (.tmp 17)),
 De (.store 1 (.tmp 21) (.tmp 20))]
def F.guess_next.r6 : List DOp := [
 Dd 22 (.mv (.tmp 0)),
 Dd 23 (.mv (.tmp 5)),
 Dd 24 (.idxs 1 (.tmp 22) (.tmp 23)),
 Dd 25 (.load 1 false (.tmp 24)),
 Dd 26 (.mv (.tmp 0)),
 Dd 27 (.len (.tmp 26)),
 Dd 28 (.bin .add (.tmp 25) (.tmp 27)),
 Dd 29 (.bin .sub (.tmp 28) (.const (.int .i64 1))),
 Dd 30 (.mv (.tmp 5)),
 Dd 31 (.bin .sub (.tmp 29) (.tmp 30)),
 Dd 32 (.mv (.tmp 1)),
 Dd 33 (.bin .lss (.tmp 31) (.tmp 32))]
def F.guess_next.r7 : List DOp := [
 Dd 34 (.mv (.tmp 5)),
 Dd 35 (.bin .add (.tmp 34) (.const (.int .i64 1))),
 Dd 6 (.mv (.tmp 35))]
def F.guess_next.r8 : List DOp := [
 Dd 36 (.mv (.tmp 6)),
 Dd 37 (.mv (.tmp 0)),
 Dd 38 (.len (.tmp 37)),
 Dd 39 (.bin .lss (.tmp 36) (.tmp 38))]
def F.guess_next.r10 : List DOp := [
 Dd 42 (.mv (.tmp 0)),
 Dd 43 (.mv (.tmp 6)),
 Dd 44 (.mv (.tmp 0)),
 Dd 45 (.mv (.tmp 6)),
 Dd 46 (.bin .sub (.tmp 45) (.const (.int .i64 1))),
 Dd 47 (.idxs 1 (.tmp 44) (.tmp 46)),
 Dd 48 (.load 1 false (.tmp 47)),
 Dd 49 (.bin .add (.tmp 48) (.const (.int .i64 1))),
 Dd 50 (.idxs 1 (.tmp 42) (.tmp 43)),
 De (.store 1 (.tmp 50) (.tmp 49))]
def F.guess_next.r9 : List DOp := [
 Dd 40 (.mv (.tmp 6)),
 Dd 41 (.bin .add (.tmp 40) (.const (.int .i64 1))),
 Dd 6 (.mv (.tmp 41))]
def F.guess_next.L1 : ACode := .seq (.seq (.region F.guess_next.r8) (.cond (.tmp 39) (.skip) (.exit 2))) (.seq (.block 3 (.region F.guess_next.r10)) (.region F.guess_next.r9))
def F.guess_next.r11 : List DOp := [
 Dd 51 (.mv (.tmp 0)),
 Dd 4 (.mv (.tmp 51))]
def F.guess_next.r4 : List DOp := [
 Dd 14 (.mv (.tmp 5)),
 Dd 15 (.bin .sub (.tmp 14) (.const (.int .i64 1))),
 Dd 5 (.mv (.tmp 15))]
def F.guess_next.L0 : ACode := .seq (.seq (.region F.guess_next.r3) (.cond (.tmp 13) (.skip) (.exit 0))) (.seq (.block 1 (.seq (.region F.guess_next.r5) (.seq (.region F.guess_next.r6) (.cond (.tmp 33) (.seq (.seq (.region F.guess_next.r7) (.block 2 (.loop F.guess_next.L1))) (.seq (.region F.guess_next.r11) (.ret))) (.skip))))) (.region F.guess_next.r4))
def F.guess_next.r12 : List DOp := [
 Dd 4 (.mv (.const (.slice none 0 0)))]
def F.guess_next.c : ACode := .seq (.region F.guess_next.r0) (.seq (.region F.guess_next.r1) (.seq (.seq (.region F.guess_next.r2) (.block 0 (.loop F.guess_next.L0))) (.seq (.region F.guess_next.r12) (.ret))))
def F.guess_next : AFunc := ⟨F.guess_next.c, [.tmp 4]⟩
/-! parlance/guess.agrees -/
def F.guess_agrees.r0 : List DOp := [
 Dd 3 (.box (.tmp 0)),
 Dd 6 (.mv (.const (.bool false)))]
def F.guess_agrees.r1 : List DOp := [
 Dd 11 (.mv (.tmp 1)),
 Dd 12 (.len (.tmp 11)),
 Dd 13 (.mv (.const (.int .i64 0)))]
def F.guess_agrees.r2 : List DOp := [
 Dd 14 (.bin .lss (.tmp 13) (.tmp 12))]
def F.guess_agrees.r3 : List DOp := [
 Dd 15 (.idxs 1 (.tmp 11) (.tmp 13)),
 Dd 16 (.load 1 false (.tmp 15)),
 Dd 8 (.mv (.tmp 16))]
def F.guess_agrees.r4 : List DOp := [
 Dd 17 (.load 4 true (.tmp 3)),
 Dd 18 (.mv (.tmp 8)),
 Dd 19 (.call I.guess_accepts [.tmp 17, .tmp 18]),
 Dd 20 (.un .not (.tmp 19))]
def F.guess_agrees.r5 : List DOp := [
 Dd 6 (.mv (.const (.bool false)))]
def F.guess_agrees.r6 : List DOp := [
 Dd 21 (.bin .add (.tmp 13) (.const (.int .i64 1))),
 Dd 13 (.mv (.tmp 21))]
def F.guess_agrees.L0 : ACode := .seq (.region F.guess_agrees.r2) (.seq (.cond (.tmp 14) (.skip) (.exit 0)) (.seq (.block 1 (.seq (.region F.guess_agrees.r3) (.seq (.region F.guess_agrees.r4) (.cond (.tmp 20) (.seq (.region F.guess_agrees.r5) (.ret)) (.skip))))) (.region F.guess_agrees.r6)))
def F.guess_agrees.r7 : List DOp := [
 Dd 22 (.mv (.tmp 2)),
 Dd 23 (.len (.tmp 22)),
 Dd 24 (.mv (.const (.int .i64 0)))]
def F.guess_agrees.r8 : List DOp := [
 Dd 25 (.bin .lss (.tmp 24) (.tmp 23))]
def F.guess_agrees.r9 : List DOp := [
 Dd 26 (.idxs 1 (.tmp 22) (.tmp 24)),
 Dd 27 (.load 1 false (.tmp 26)),
 Dd 10 (.mv (.tmp 27))]
def F.guess_agrees.r10 : List DOp := [
 Dd 28 (.load 4 true (.tmp 3)),
 Dd 29 (.mv (.tmp 10)),
 Dd 30 (.call I.guess_accepts [.tmp 28, .tmp 29])]
def F.guess_agrees.r11 : List DOp := [
 Dd 6 (.mv (.const (.bool false)))]
def F.guess_agrees.r12 : List DOp := [
 Dd 31 (.bin .add (.tmp 24) (.const (.int .i64 1))),
 Dd 24 (.mv (.tmp 31))]
def F.guess_agrees.L1 : ACode := .seq (.region F.guess_agrees.r8) (.seq (.cond (.tmp 25) (.skip) (.exit 2)) (.seq (.block 3 (.seq (.region F.guess_agrees.r9) (.seq (.region F.guess_agrees.r10) (.cond (.tmp 30) (.seq (.region F.guess_agrees.r11) (.ret)) (.skip))))) (.region F.guess_agrees.r12)))
def F.guess_agrees.r13 : List DOp := [
 Dd 6 (.mv (.const (.bool true)))]
def F.guess_agrees.c : ACode := .seq (.region F.guess_agrees.r0) (.seq (.seq (.region F.guess_agrees.r1) (.block 0 (.loop F.guess_agrees.L0))) (.seq (.seq (.region F.guess_agrees.r7) (.block 2 (.loop F.guess_agrees.L1))) (.seq (.region F.guess_agrees.r13) (.ret))))
def F.guess_agrees : AFunc := ⟨F.guess_agrees.c, [.tmp 6]⟩
/-! parlance/guess.Check$1 -/
def F.guess_Check_1.r0 : List DOp := [
 Dd 3 (.mv (.const (.bool false)))]
def F.guess_Check_1.r1 : List DOp := [
 Dd 4 (.mv (.tmp 0)),
 Dd 5 (.load 1 false (.tmp 1)),
 Dd 6 (.call I.slices_Equal_int_int [.tmp 4, .tmp 5]),
 Dd 3 (.mv (.tmp 6))]
def F.guess_Check_1.c : ACode := .seq (.region F.guess_Check_1.r0) (.seq (.region F.guess_Check_1.r1) (.ret))
def F.guess_Check_1 : AFunc := ⟨F.guess_Check_1.c, [.tmp 3]⟩
/-! parlance/guess.accepts -/
def F.guess_accepts.r0 : List DOp := [
 Dd 2 (.box (.tmp 0)),
 Dd 3 (.box (.tmp 1)),
 Dd 4 (.mv (.const (.bool false)))]
def F.guess_accepts.r1 : List DOp := [
 Dd 5 (.alloc [.int .u64 0, .int .u64 0, .int .u64 0, .int .u64 0, .int .u64 0, .int .u64 0, .int .u64 0, .int .u64 0, .int .u64 0, .int .u64 0, .int .u64 0, .int .u64 0])]
def F.guess_accepts.r2 : List DOp := [
 Dd 16 (.mkfn (.func I.guess_accepts_1) [.tmp 5, .tmp 3]),
 Dd 6 (.mv (.tmp 16))]
def F.guess_accepts.r3 : List DOp := [
 Dd 7 (.mv (.const (.bool true)))]
def F.guess_accepts.r4 : List DOp := [
 Dd 17 (.mv (.tmp 7))]
def F.guess_accepts.r5 : List DOp := [
 Dd 7 (.mv (.const (.bool false)))]
def F.guess_accepts.r6 : List DOp := [
 Dd 18 (.faddr 3 (.tmp 2)),
 Dd 19 (.load 1 false (.tmp 18)),
 Dd 20 (.len (.tmp 19)),
 Dd 21 (.mv (.const (.int .i64 0)))]
def F.guess_accepts.r7 : List DOp := [
 Dd 22 (.bin .lss (.tmp 21) (.tmp 20))]
def F.guess_accepts.r8 : List DOp := [
 Dd 23 (.idxs 2 (.tmp 19) (.tmp 21)),
 Dd 24 (.load 2 true (.tmp 23)),
 Dd 9 (.alloc [.int .i64 0, .slice none 0 0]),
 De (.store 2 (.tmp 9) (.tmp 24))]
def F.guess_accepts.r9 : List DOp := [
 Dd 25 (.load 1 false (.tmp 3)),
 Dd 26 (.len (.tmp 25)),
 Dd 27 (.bin .add (.tmp 26) (.const (.int .i64 1))),
 Dd 28 (.mv (.const (.int .i64 0)))]
def F.guess_accepts.r10 : List DOp := [
 Dd 29 (.bin .lss (.tmp 28) (.tmp 27))]
def F.guess_accepts.r11 : List DOp := [
 Dd 30 (.mv (.tmp 28)),
 Dd 10 (.mv (.tmp 30))]
def F.guess_accepts.r12 : List DOp := [
 Dd 31 (.mv (.tmp 10)),
 Dd 32 (.bin .shl (.const (.int .u64 1)) (.tmp 31)),
 Dd 11 (.mv (.tmp 32))]
def F.guess_accepts.r13 : List DOp := [
 Dd 33 (.faddr 1 (.tmp 9)),
 Dd 34 (.load 1 false (.tmp 33)),
 Dd 35 (.len (.tmp 34)),
 Dd 36 (.mv (.const (.int .i64 0)))]
def F.guess_accepts.r14 : List DOp := [
 Dd 37 (.bin .lss (.tmp 36) (.tmp 35))]
def F.guess_accepts.r15 : List DOp := [
 Dd 38 (.idxs 2 (.tmp 34) (.tmp 36)),
 Dd 39 (.load 2 true (.tmp 38)),
 Dd 13 (.alloc [.bool false, .int .i64 0]),
 De (.store 2 (.tmp 13) (.tmp 39))]
def F.guess_accepts.r16 : List DOp := [
 Dd 14 (.mv (.const (.int .u64 0)))]
def F.guess_accepts.r17 : List DOp := [
 Dd 40 (.mv (.tmp 10)),
 Dd 15 (.mv (.tmp 40))]
def F.guess_accepts.r18 : List DOp := [
 Dd 41 (.mv (.tmp 15)),
 Dd 42 (.load 1 false (.tmp 3)),
 Dd 43 (.len (.tmp 42)),
 Dd 44 (.bin .leq (.tmp 41) (.tmp 43))]
def F.guess_accepts.r20 : List DOp := [
 Dd 47 (.mv (.tmp 11)),
 Dd 48 (.mv (.tmp 15)),
 Dd 49 (.bin .shr (.tmp 47) (.tmp 48)),
 Dd 50 (.bin .and (.tmp 49) (.const (.int .u64 1))),
 Dd 51 (.bin .eql (.tmp 50) (.const (.int .u64 1)))]
def F.guess_accepts.r21 : List DOp := [
 Dd 52 (.mv (.tmp 14)),
 Dd 53 (.mv (.tmp 6)),
 Dd 54 (.load 2 true (.tmp 13)),
 Dd 55 (.mv (.tmp 15)),
 Dd 56 (.callv (.tmp 53) [.tmp 54, .tmp 55]),
 Dd 57 (.bin .or (.tmp 52) (.tmp 56)),
 Dd 14 (.mv (.tmp 57))]
def F.guess_accepts.r19 : List DOp := [
 Dd 45 (.mv (.tmp 15)),
 Dd 46 (.bin .add (.tmp 45) (.const (.int .i64 1))),
 Dd 15 (.mv (.tmp 46))]
def F.guess_accepts.L4 : ACode := .seq (.seq (.region F.guess_accepts.r18) (.cond (.tmp 44) (.skip) (.exit 8))) (.seq (.block 9 (.seq (.region F.guess_accepts.r20) (.cond (.tmp 51) (.region F.guess_accepts.r21) (.skip)))) (.region F.guess_accepts.r19))
def F.guess_accepts.r22 : List DOp := [
 Dd 58 (.mv (.tmp 14)),
 Dd 11 (.mv (.tmp 58))]
def F.guess_accepts.r23 : List DOp := [
 Dd 59 (.bin .add (.tmp 36) (.const (.int .i64 1))),
 Dd 36 (.mv (.tmp 59))]
def F.guess_accepts.L3 : ACode := .seq (.region F.guess_accepts.r14) (.seq (.cond (.tmp 37) (.skip) (.exit 6)) (.seq (.block 7 (.seq (.region F.guess_accepts.r15) (.seq (.region F.guess_accepts.r16) (.seq (.seq (.region F.guess_accepts.r17) (.block 8 (.loop F.guess_accepts.L4))) (.region F.guess_accepts.r22))))) (.region F.guess_accepts.r23)))
def F.guess_accepts.r24 : List DOp := [
 Dd 60 (.mv (.tmp 11)),
 Dd 61 (.faddr 0 (.tmp 9)),
 Dd 62 (.load 1 false (.tmp 61)),
 Dd 63 (.mv (.tmp 10)),
 Dd 64 (.idxa 2 6 (.tmp 5) (.tmp 62)),
 Dd 65 (.idxa 6 1 (.tmp 64) (.tmp 63)),
 Dd 66 (.load 1 false (.tmp 65)),
 Dd 67 (.bin .andNot (.tmp 60) (.tmp 66)),
 Dd 68 (.bin .neq (.tmp 67) (.const (.int .u64 0)))]
def F.guess_accepts.r25 : List DOp := [
 Dd 69 (.faddr 0 (.tmp 9)),
 Dd 70 (.load 1 false (.tmp 69)),
 Dd 71 (.mv (.tmp 10)),
 Dd 72 (.idxa 2 6 (.tmp 5) (.tmp 70)),
 Dd 73 (.idxa 6 1 (.tmp 72) (.tmp 71)),
 Dd 74 (.load 1 false (.tmp 73)),
 Dd 75 (.mv (.tmp 11)),
 Dd 76 (.bin .or (.tmp 74) (.tmp 75)),
 Dd 77 (.idxa 2 6 (.tmp 5) (.tmp 70)),
 Dd 78 (.idxa 6 1 (.tmp 77) (.tmp 71)),
 De (.store 1 (.tmp 78) (.tmp 76))]
def F.guess_accepts.r26 : List DOp := [
 Dd 7 (.mv (.const (.bool true)))]
def F.guess_accepts.r27 : List DOp := [
 Dd 79 (.bin .add (.tmp 28) (.const (.int .i64 1))),
 Dd 28 (.mv (.tmp 79))]
def F.guess_accepts.L2 : ACode := .seq (.region F.guess_accepts.r10) (.seq (.cond (.tmp 29) (.skip) (.exit 4)) (.seq (.block 5 (.seq (.region F.guess_accepts.r11) (.seq (.region F.guess_accepts.r12) (.seq (.seq (.region F.guess_accepts.r13) (.block 6 (.loop F.guess_accepts.L3))) (.seq (.region F.guess_accepts.r24) (.cond (.tmp 68) (.seq (.draw F.guess_accepts.r25 []) (.region F.guess_accepts.r26)) (.skip))))))) (.region F.guess_accepts.r27)))
def F.guess_accepts.r28 : List DOp := [
 Dd 80 (.bin .add (.tmp 21) (.const (.int .i64 1))),
 Dd 21 (.mv (.tmp 80))]
def F.guess_accepts.L1 : ACode := .seq (.region F.guess_accepts.r7) (.seq (.cond (.tmp 22) (.skip) (.exit 2)) (.seq (.block 3 (.seq (.region F.guess_accepts.r8) (.seq (.region F.guess_accepts.r9) (.block 4 (.loop F.guess_accepts.L2))))) (.region F.guess_accepts.r28)))
def F.guess_accepts.L0 : ACode := .seq (.seq (.region F.guess_accepts.r4) (.cond (.tmp 17) (.skip) (.exit 0))) (.block 1 (.seq (.region F.guess_accepts.r5) (.seq (.region F.guess_accepts.r6) (.block 2 (.loop F.guess_accepts.L1)))))
def F.guess_accepts.r29 : List DOp := [
 Dd 81 (.idxa 2 6 (.tmp 5) (.const (.int .i64 0))),
 Dd 82 (.idxa 6 1 (.tmp 81) (.const (.int .i64 0))),
 Dd 83 (.load 1 false (.tmp 82)),
 Dd 84 (.load 1 false (.tmp 3)),
 Dd 85 (.len (.tmp 84)),
 Dd 86 (.bin .shr (.tmp 83) (.tmp 85)),
 Dd 87 (.bin .and (.tmp 86) (.const (.int .u64 1))),
 Dd 88 (.bin .eql (.tmp 87) (.const (.int .u64 1))),
 Dd 4 (.mv (.tmp 88))]
def F.guess_accepts.c : ACode := .seq (.region F.guess_accepts.r0) (.seq (.region F.guess_accepts.r1) (.seq (.region F.guess_accepts.r2) (.seq (.seq (.region F.guess_accepts.r3) (.block 0 (.loop F.guess_accepts.L0))) (.seq (.region F.guess_accepts.r29) (.ret)))))
def F.guess_accepts : AFunc := ⟨F.guess_accepts.c, [.tmp 4]⟩
/-! parlance/guess.accepts$1 -/
def F.guess_accepts_1.r0 : List DOp := [
 Dd 4 (.box (.tmp 0)),
 Dd 6 (.mv (.const (.int .u64 0)))]
def F.guess_accepts_1.r1 : List DOp := [
 Dd 7 (.faddr 0 (.tmp 4)),
 Dd 8 (.load 1 false (.tmp 7)),
 Dd 9 (.un .not (.tmp 8))]
def F.guess_accepts_1.r2 : List DOp := [
 Dd 10 (.faddr 1 (.tmp 4)),
 Dd 11 (.load 1 false (.tmp 10)),
 Dd 12 (.mv (.tmp 1)),
 Dd 13 (.idxa 2 6 (.tmp 2) (.tmp 11)),
 Dd 14 (.idxa 6 1 (.tmp 13) (.tmp 12)),
 Dd 15 (.load 1 false (.tmp 14)),
 Dd 6 (.mv (.tmp 15))]
def F.guess_accepts_1.r3 : List DOp := [
 Dd 16 (.mv (.tmp 1)),
 Dd 17 (.load 1 false (.tmp 3)),
 Dd 18 (.len (.tmp 17)),
 Dd 19 (.bin .lss (.tmp 16) (.tmp 18)),
 Dd 20 (.mv (.tmp 19)),
 ⟨some 21, .load 1 false (.tmp 3), (some (20, true)), []⟩,
 ⟨some 22, .mv (.tmp 1), (some (20, true)), []⟩,
 ⟨some 23, .idxs 1 (.tmp 21) (.tmp 22), (some (20, true)), []⟩,
 ⟨some 24, .load 1 false (.tmp 23), (some (20, true)), []⟩,
 ⟨some 25, .faddr 1 (.tmp 4), (some (20, true)), []⟩,
 ⟨some 26, .load 1 false (.tmp 25), (some (20, true)), []⟩,
 ⟨some 27, .bin .eql (.tmp 24) (.tmp 26), (some (20, true)), []⟩,
 Dd 28 (.pick (.tmp 20) (.tmp 27) (.const (.bool false)))]
def F.guess_accepts_1.r4 : List DOp := [
 Dd 29 (.mv (.tmp 1)),
 Dd 30 (.bin .add (.tmp 29) (.const (.int .i64 1))),
 Dd 31 (.bin .shl (.const (.int .u64 1)) (.tmp 30)),
 Dd 6 (.mv (.tmp 31))]
def F.guess_accepts_1.r5 : List DOp := [
 Dd 6 (.mv (.const (.int .u64 0)))]
def F.guess_accepts_1.c : ACode := .seq (.region F.guess_accepts_1.r0) (.seq (.seq (.region F.guess_accepts_1.r1) (.cond (.tmp 9) (.seq (.region F.guess_accepts_1.r2) (.ret)) (.skip))) (.seq (.seq (.draw F.guess_accepts_1.r3 []) (.cond (.tmp 28) (.seq (.region F.guess_accepts_1.r4) (.ret)) (.skip))) (.seq (.region F.guess_accepts_1.r5) (.ret))))
def F.guess_accepts_1 : AFunc := ⟨F.guess_accepts_1.c, [.tmp 6]⟩
end Go.Proofs.Ytcdhhelgoppleaa
