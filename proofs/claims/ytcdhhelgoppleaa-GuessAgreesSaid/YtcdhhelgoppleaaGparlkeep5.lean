/- The abstract code of package parlkeep5, written by wip/tools/gen.py from the translation. -/
import Derived.Test.YtcdhhelgoppleaaI
namespace Go.Proofs.Ytcdhhelgoppleaa
open Go Go.Ab
/-! parlance/parlkeep5.GuessAgrees -/
def F.parlkeep5_GuessAgrees.r0 : List DOp := [
 Dd 6 (.mv (.const (.bool false)))]
def F.parlkeep5_GuessAgrees.r1 : List DOp := [
 Dd 23 (.mv (.tmp 0)),
 Dd 24 (.call I.parlmake_Dfa [.tmp 23]),
 Dd 7 (.alloc [.int .i64 0, .slice none 0 0, .slice none 0 0]),
 De (.store 3 (.tmp 7) (.tmp 24))]
def F.parlkeep5_GuessAgrees.r2 : List DOp := [
 Dd 26 (.bslice 1 1 [.int .i64 0] [(0, 1, .const (.int .i64 0))]),
 Dd 27 (.bslice 1 1 [.slice none 0 0] [(0, 1, .tmp 26)]),
 Dd 28 (.bslice 1 0 [] []),
 Dd 29 (.bslice 1 1 [.slice none 0 0] [(0, 1, .tmp 28)]),
 Dd 30 (.call I.guess_Of [.const (.int .i64 1), .const (.int .i64 1), .tmp 27, .tmp 29]),
 Dd 25 (.mv (.tmp 30)),
 Dd 31 (.extract (.tmp 25) 0),
 Dd 32 (.extract (.tmp 25) 1),
 Dd 8 (.alloc [.int .i64 0, .int .i64 0, .int .i64 0, .slice none 0 0]),
 De (.store 4 (.tmp 8) (.tmp 31)),
 Dd 9 (.mv (.tmp 32))]
def F.parlkeep5_GuessAgrees.r3 : List DOp := [
 Dd 33 (.mv (.tmp 9)),
 Dd 34 (.bin .neq (.tmp 33) (.const (.int .i64 0))),
 Dd 35 (.mv (.tmp 34)),
 ⟨some 36, .faddr 3 (.tmp 8), (some (35, false)), []⟩,
 ⟨some 37, .load 1 false (.tmp 36), (some (35, false)), []⟩,
 ⟨some 38, .len (.tmp 37), (some (35, false)), []⟩,
 ⟨some 39, .bin .neq (.tmp 38) (.const (.int .i64 1)), (some (35, false)), []⟩,
 Dd 40 (.pick (.tmp 35) (.const (.bool true)) (.tmp 39))]
def F.parlkeep5_GuessAgrees.r4 : List DOp := [
 Dd 6 (.mv (.const (.bool false)))]
def F.parlkeep5_GuessAgrees.r5 : List DOp := [
 Dd 41 (.faddr 2 (.tmp 7)),
 Dd 42 (.load 1 false (.tmp 41)),
 Dd 43 (.idxs 1 (.tmp 42) (.const (.int .i64 0))),
 Dd 44 (.load 1 false (.tmp 43)),
 Dd 45 (.len (.tmp 44)),
 Dd 46 (.mm false [.const (.int .i64 2), .tmp 45]),
 Dd 10 (.mv (.tmp 46))]
def F.parlkeep5_GuessAgrees.r6 : List DOp := [
 Dd 48 (.load 3 true (.tmp 7)),
 Dd 49 (.mv (.tmp 10)),
 Dd 50 (.mv (.tmp 1)),
 Dd 51 (.call I.parlkeep5_fewer [.tmp 48, .tmp 49, .tmp 50]),
 Dd 47 (.mv (.tmp 51)),
 Dd 52 (.extract (.tmp 47) 0),
 Dd 53 (.extract (.tmp 47) 1),
 Dd 11 (.mv (.tmp 52)),
 Dd 12 (.mv (.tmp 53))]
def F.parlkeep5_GuessAgrees.r7 : List DOp := [
 Dd 55 (.mv (.tmp 10)),
 Dd 56 (.mv (.tmp 2)),
 Dd 57 (.call I.parlkeep5_below [.tmp 56, .const (.int .i64 2)]),
 Dd 58 (.bin .add (.const (.int .i64 1)) (.tmp 57)),
 Dd 59 (.mv (.tmp 11)),
 Dd 60 (.mv (.tmp 12)),
 Dd 61 (.call I.guess_Of [.tmp 55, .tmp 58, .tmp 59, .tmp 60]),
 Dd 54 (.mv (.tmp 61)),
 Dd 62 (.extract (.tmp 54) 0),
 Dd 63 (.extract (.tmp 54) 1),
 Dd 13 (.alloc [.int .i64 0, .int .i64 0, .int .i64 0, .slice none 0 0]),
 De (.store 4 (.tmp 13) (.tmp 62)),
 Dd 14 (.mv (.tmp 63))]
def F.parlkeep5_GuessAgrees.r8 : List DOp := [
 Dd 64 (.mv (.tmp 14)),
 Dd 65 (.bin .neq (.tmp 64) (.const (.int .i64 0)))]
def F.parlkeep5_GuessAgrees.r9 : List DOp := [
 Dd 66 (.mv (.tmp 14)),
 Dd 67 (.bin .eql (.tmp 66) (.const (.int .i64 5))),
 Dd 6 (.mv (.tmp 67))]
def F.parlkeep5_GuessAgrees.r10 : List DOp := [
 Dd 68 (.mv (.tmp 11)),
 Dd 69 (.len (.tmp 68)),
 Dd 70 (.mv (.const (.int .i64 0)))]
def F.parlkeep5_GuessAgrees.r11 : List DOp := [
 Dd 71 (.bin .lss (.tmp 70) (.tmp 69))]
def F.parlkeep5_GuessAgrees.r12 : List DOp := [
 Dd 72 (.idxs 1 (.tmp 68) (.tmp 70)),
 Dd 73 (.load 1 false (.tmp 72)),
 Dd 16 (.mv (.tmp 73))]
def F.parlkeep5_GuessAgrees.r13 : List DOp := [
 Dd 75 (.load 4 true (.tmp 13)),
 Dd 76 (.mv (.tmp 16)),
 Dd 77 (.call I.mean_Accepts [.tmp 75, .tmp 76]),
 Dd 74 (.mv (.tmp 77)),
 Dd 78 (.extract (.tmp 74) 0),
 Dd 79 (.extract (.tmp 74) 1),
 Dd 17 (.mv (.tmp 78)),
 Dd 18 (.mv (.tmp 79))]
def F.parlkeep5_GuessAgrees.r14 : List DOp := [
 Dd 80 (.mv (.tmp 18)),
 Dd 81 (.bin .neq (.tmp 80) (.const (.int .i64 0))),
 Dd 82 (.mv (.tmp 81)),
 ⟨some 83, .mv (.tmp 17), (some (82, false)), []⟩,
 ⟨some 84, .un .not (.tmp 83), (some (82, false)), []⟩,
 Dd 85 (.pick (.tmp 82) (.const (.bool true)) (.tmp 84))]
def F.parlkeep5_GuessAgrees.r15 : List DOp := [
 Dd 6 (.mv (.const (.bool false)))]
def F.parlkeep5_GuessAgrees.r16 : List DOp := [
 Dd 86 (.bin .add (.tmp 70) (.const (.int .i64 1))),
 Dd 70 (.mv (.tmp 86))]
def F.parlkeep5_GuessAgrees.L0 : ACode := .seq (.region F.parlkeep5_GuessAgrees.r11) (.seq (.cond (.tmp 71) (.skip) (.exit 0)) (.seq (.block 1 (.seq (.region F.parlkeep5_GuessAgrees.r12) (.seq (.region F.parlkeep5_GuessAgrees.r13) (.seq (.region F.parlkeep5_GuessAgrees.r14) (.cond (.tmp 85) (.seq (.region F.parlkeep5_GuessAgrees.r15) (.ret)) (.skip)))))) (.region F.parlkeep5_GuessAgrees.r16)))
def F.parlkeep5_GuessAgrees.r17 : List DOp := [
 Dd 87 (.mv (.tmp 12)),
 Dd 88 (.len (.tmp 87)),
 Dd 89 (.mv (.const (.int .i64 0)))]
def F.parlkeep5_GuessAgrees.r18 : List DOp := [
 Dd 90 (.bin .lss (.tmp 89) (.tmp 88))]
def F.parlkeep5_GuessAgrees.r19 : List DOp := [
 Dd 91 (.idxs 1 (.tmp 87) (.tmp 89)),
 Dd 92 (.load 1 false (.tmp 91)),
 Dd 20 (.mv (.tmp 92))]
def F.parlkeep5_GuessAgrees.r20 : List DOp := [
 Dd 94 (.load 4 true (.tmp 13)),
 Dd 95 (.mv (.tmp 20)),
 Dd 96 (.call I.mean_Accepts [.tmp 94, .tmp 95]),
 Dd 93 (.mv (.tmp 96)),
 Dd 97 (.extract (.tmp 93) 0),
 Dd 98 (.extract (.tmp 93) 1),
 Dd 21 (.mv (.tmp 97)),
 Dd 22 (.mv (.tmp 98))]
def F.parlkeep5_GuessAgrees.r21 : List DOp := [
 Dd 99 (.mv (.tmp 22)),
 Dd 100 (.bin .neq (.tmp 99) (.const (.int .i64 0))),
 Dd 101 (.mv (.tmp 100)),
 ⟨some 102, .mv (.tmp 21), (some (101, false)), []⟩,
 Dd 103 (.pick (.tmp 101) (.const (.bool true)) (.tmp 102))]
def F.parlkeep5_GuessAgrees.r22 : List DOp := [
 Dd 6 (.mv (.const (.bool false)))]
def F.parlkeep5_GuessAgrees.r23 : List DOp := [
 Dd 104 (.bin .add (.tmp 89) (.const (.int .i64 1))),
 Dd 89 (.mv (.tmp 104))]
def F.parlkeep5_GuessAgrees.L1 : ACode := .seq (.region F.parlkeep5_GuessAgrees.r18) (.seq (.cond (.tmp 90) (.skip) (.exit 2)) (.seq (.block 3 (.seq (.region F.parlkeep5_GuessAgrees.r19) (.seq (.region F.parlkeep5_GuessAgrees.r20) (.seq (.region F.parlkeep5_GuessAgrees.r21) (.cond (.tmp 103) (.seq (.region F.parlkeep5_GuessAgrees.r22) (.ret)) (.skip)))))) (.region F.parlkeep5_GuessAgrees.r23)))
def F.parlkeep5_GuessAgrees.r24 : List DOp := [
 Dd 105 (.faddr 3 (.tmp 13)),
 Dd 106 (.load 1 false (.tmp 105)),
 Dd 107 (.len (.tmp 106)),
 Dd 108 (.bin .leq (.tmp 107) (.const (.int .i64 3))),
 Dd 6 (.mv (.tmp 108))]
def F.parlkeep5_GuessAgrees.c : ACode := .seq (.region F.parlkeep5_GuessAgrees.r0) (.seq (.region F.parlkeep5_GuessAgrees.r1) (.seq (.seq (.region F.parlkeep5_GuessAgrees.r2) (.seq (.region F.parlkeep5_GuessAgrees.r3) (.cond (.tmp 40) (.seq (.region F.parlkeep5_GuessAgrees.r4) (.ret)) (.skip)))) (.seq (.region F.parlkeep5_GuessAgrees.r5) (.seq (.region F.parlkeep5_GuessAgrees.r6) (.seq (.region F.parlkeep5_GuessAgrees.r7) (.seq (.seq (.region F.parlkeep5_GuessAgrees.r8) (.cond (.tmp 65) (.seq (.region F.parlkeep5_GuessAgrees.r9) (.ret)) (.skip))) (.seq (.seq (.region F.parlkeep5_GuessAgrees.r10) (.block 0 (.loop F.parlkeep5_GuessAgrees.L0))) (.seq (.seq (.region F.parlkeep5_GuessAgrees.r17) (.block 2 (.loop F.parlkeep5_GuessAgrees.L1))) (.seq (.region F.parlkeep5_GuessAgrees.r24) (.ret))))))))))
def F.parlkeep5_GuessAgrees : AFunc := ⟨F.parlkeep5_GuessAgrees.c, [.tmp 6]⟩
/-! parlance/parlkeep5.fewer -/
def F.parlkeep5_fewer.r0 : List DOp := [
 Dd 3 (.box (.tmp 0)),
 Dd 4 (.box (.tmp 1)),
 Dd 6 (.mv (.const (.slice none 0 0))),
 Dd 7 (.mv (.const (.slice none 0 0)))]
def F.parlkeep5_fewer.r1 : List DOp := [
 Dd 12 (.load 3 true (.tmp 3)),
 Dd 13 (.mv (.tmp 2)),
 Dd 14 (.call I.parlkeep5_examples [.tmp 12, .tmp 13]),
 Dd 11 (.mv (.tmp 14)),
 Dd 15 (.extract (.tmp 11) 0),
 Dd 16 (.extract (.tmp 11) 1),
 Dd 8 (.mv (.tmp 15)),
 Dd 9 (.mv (.tmp 16))]
def F.parlkeep5_fewer.r2 : List DOp := [
 Dd 17 (.mkfn (.func I.parlkeep5_fewer_1) [.tmp 4]),
 Dd 10 (.mv (.tmp 17))]
def F.parlkeep5_fewer.r3 : List DOp := [
 Dd 18 (.mv (.tmp 8)),
 Dd 19 (.mv (.tmp 10)),
 Dd 20 (.call I.slices_DeleteFunc_int_int [.tmp 18, .tmp 19]),
 Dd 21 (.mv (.tmp 9)),
 Dd 22 (.mv (.tmp 10)),
 Dd 23 (.call I.slices_DeleteFunc_int_int [.tmp 21, .tmp 22]),
 Dd 8 (.mv (.tmp 20)),
 Dd 9 (.mv (.tmp 23))]
def F.parlkeep5_fewer.r4 : List DOp := [
 Dd 24 (.mv (.tmp 8)),
 Dd 25 (.mv (.tmp 8)),
 Dd 26 (.len (.tmp 25)),
 Dd 27 (.mm false [.const (.int .i64 3), .tmp 26]),
 Dd 28 (.slice 1 (.tmp 24) none (some (.tmp 27))),
 Dd 29 (.mv (.tmp 9)),
 Dd 30 (.mv (.tmp 9)),
 Dd 31 (.len (.tmp 30)),
 Dd 32 (.mm false [.const (.int .i64 3), .tmp 31]),
 Dd 33 (.slice 1 (.tmp 29) none (some (.tmp 32))),
 Dd 6 (.mv (.tmp 28)),
 Dd 7 (.mv (.tmp 33))]
def F.parlkeep5_fewer.c : ACode := .seq (.region F.parlkeep5_fewer.r0) (.seq (.region F.parlkeep5_fewer.r1) (.seq (.region F.parlkeep5_fewer.r2) (.seq (.region F.parlkeep5_fewer.r3) (.seq (.draw F.parlkeep5_fewer.r4 []) (.ret)))))
def F.parlkeep5_fewer : AFunc := ⟨F.parlkeep5_fewer.c, [.tmp 6, .tmp 7]⟩
/-! parlance/parlkeep5.below -/
def F.parlkeep5_below.r0 : List DOp := [
 Dd 4 (.mv (.const (.int .i64 0)))]
def F.parlkeep5_below.r1 : List DOp := [
 Dd 5 (.mv (.tmp 0)),
 Dd 6 (.mv (.tmp 1)),
 Dd 7 (.call I.parlmake_Below [.tmp 5, .tmp 6]),
 Dd 4 (.mv (.tmp 7))]
def F.parlkeep5_below.c : ACode := .seq (.region F.parlkeep5_below.r0) (.seq (.region F.parlkeep5_below.r1) (.ret))
def F.parlkeep5_below : AFunc := ⟨F.parlkeep5_below.c, [.tmp 4]⟩
/-! parlance/parlkeep5.examples -/
def F.parlkeep5_examples.r0 : List DOp := [
 Dd 2 (.box (.tmp 0)),
 Dd 4 (.mv (.const (.slice none 0 0))),
 Dd 5 (.mv (.const (.slice none 0 0)))]
def F.parlkeep5_examples.r1 : List DOp := [
 Dd 6 (.mv (.const (.slice none 0 0))),
 Dd 7 (.mv (.const (.slice none 0 0)))]
def F.parlkeep5_examples.r2 : List DOp := [
 Dd 10 (.mv (.tmp 1)),
 Dd 11 (.len (.tmp 10)),
 Dd 12 (.bin .gtr (.tmp 11) (.const (.int .i64 0))),
 Dd 13 (.mv (.tmp 12)),
 ⟨some 14, .mv (.tmp 6), (some (13, true)), []⟩,
 ⟨some 15, .len (.tmp 14), (some (13, true)), []⟩,
 ⟨some 16, .mv (.tmp 7), (some (13, true)), []⟩,
 ⟨some 17, .len (.tmp 16), (some (13, true)), []⟩,
 ⟨some 18, .bin .add (.tmp 15) (.tmp 17), (some (13, true)), []⟩,
 ⟨some 19, .bin .lss (.tmp 18) (.const (.int .i64 12)), (some (13, true)), []⟩,
 Dd 20 (.pick (.tmp 13) (.tmp 19) (.const (.bool false)))]
def F.parlkeep5_examples.r3 : List DOp := [
 Dd 21 (.mv (.tmp 1)),
 Dd 22 (.idxs 1 (.tmp 21) (.const (.int .i64 0))),
 Dd 23 (.load 1 false (.tmp 22)),
 Dd 24 (.call I.parlkeep5_below [.tmp 23, .const (.int .i64 5)]),
 Dd 8 (.mv (.tmp 24))]
def F.parlkeep5_examples.r4 : List DOp := [
 Dd 25 (.mv (.tmp 1)),
 Dd 26 (.slice 1 (.tmp 25) (some (.const (.int .i64 1))) none),
 Dd 1 (.mv (.tmp 26))]
def F.parlkeep5_examples.r5 : List DOp := [
 Dd 27 (.faddr 2 (.tmp 2)),
 Dd 28 (.load 1 false (.tmp 27)),
 Dd 29 (.idxs 1 (.tmp 28) (.const (.int .i64 0))),
 Dd 30 (.load 1 false (.tmp 29)),
 Dd 31 (.len (.tmp 30)),
 Dd 32 (.mv (.tmp 8)),
 Dd 33 (.mv (.tmp 1)),
 Dd 34 (.call I.parlmake_Word [.tmp 31, .tmp 32, .tmp 33]),
 Dd 9 (.mv (.tmp 34))]
def F.parlkeep5_examples.r6 : List DOp := [
 Dd 35 (.mv (.tmp 1)),
 Dd 36 (.mv (.tmp 1)),
 Dd 37 (.len (.tmp 36)),
 Dd 38 (.mv (.tmp 8)),
 Dd 39 (.mm false [.tmp 37, .tmp 38]),
 Dd 40 (.slice 1 (.tmp 35) (some (.tmp 39)) none),
 Dd 1 (.mv (.tmp 40))]
def F.parlkeep5_examples.r7 : List DOp := [
 Dd 41 (.load 3 true (.tmp 2)),
 Dd 42 (.mv (.tmp 9)),
 Dd 43 (.call I.parlkeep5_accepts [.tmp 41, .tmp 42])]
def F.parlkeep5_examples.r8 : List DOp := [
 Dd 44 (.mv (.tmp 6)),
 Dd 45 (.mv (.tmp 9)),
 Dd 46 (.bslice 1 1 [.slice none 0 0] [(0, 1, .tmp 45)]),
 Dd 47 (.append 1 24 (.tmp 44) (.tmp 46)),
 Dd 6 (.mv (.tmp 47))]
def F.parlkeep5_examples.r9 : List DOp := [
 Dd 48 (.mv (.tmp 7)),
 Dd 49 (.mv (.tmp 9)),
 Dd 50 (.bslice 1 1 [.slice none 0 0] [(0, 1, .tmp 49)]),
 Dd 51 (.append 1 24 (.tmp 48) (.tmp 50)),
 Dd 7 (.mv (.tmp 51))]
def F.parlkeep5_examples.L0 : ACode := .seq (.seq (.region F.parlkeep5_examples.r2) (.cond (.tmp 20) (.skip) (.exit 0))) (.block 1 (.seq (.region F.parlkeep5_examples.r3) (.seq (.region F.parlkeep5_examples.r4) (.seq (.region F.parlkeep5_examples.r5) (.seq (.region F.parlkeep5_examples.r6) (.seq (.region F.parlkeep5_examples.r7) (.cond (.tmp 43) (.region F.parlkeep5_examples.r8) (.region F.parlkeep5_examples.r9))))))))
def F.parlkeep5_examples.r10 : List DOp := [
 Dd 52 (.mv (.tmp 6)),
 Dd 53 (.mv (.tmp 7)),
 Dd 4 (.mv (.tmp 52)),
 Dd 5 (.mv (.tmp 53))]
def F.parlkeep5_examples.c : ACode := .seq (.region F.parlkeep5_examples.r0) (.seq (.region F.parlkeep5_examples.r1) (.seq (.block 0 (.loop F.parlkeep5_examples.L0)) (.seq (.region F.parlkeep5_examples.r10) (.ret))))
def F.parlkeep5_examples : AFunc := ⟨F.parlkeep5_examples.c, [.tmp 4, .tmp 5]⟩
/-! parlance/parlkeep5.fewer$1 -/
def F.parlkeep5_fewer_1.r0 : List DOp := [
 Dd 3 (.mv (.const (.bool false)))]
def F.parlkeep5_fewer_1.r1 : List DOp := [
 Dd 4 (.mv (.tmp 0)),
 Dd 5 (.mkfn (.func I.parlkeep5_fewer_1_1) [.tmp 1]),
 Dd 6 (.call I.slices_ContainsFunc_int_int [.tmp 4, .tmp 5]),
 Dd 3 (.mv (.tmp 6))]
def F.parlkeep5_fewer_1.c : ACode := .seq (.region F.parlkeep5_fewer_1.r0) (.seq (.region F.parlkeep5_fewer_1.r1) (.ret))
def F.parlkeep5_fewer_1 : AFunc := ⟨F.parlkeep5_fewer_1.c, [.tmp 3]⟩
/-! parlance/parlkeep5.fewer$1$1 -/
def F.parlkeep5_fewer_1_1.r0 : List DOp := [
 Dd 3 (.mv (.const (.bool false)))]
def F.parlkeep5_fewer_1_1.r1 : List DOp := [
 Dd 4 (.mv (.tmp 0)),
 Dd 5 (.load 1 false (.tmp 1)),
 Dd 6 (.bin .geq (.tmp 4) (.tmp 5)),
 Dd 3 (.mv (.tmp 6))]
def F.parlkeep5_fewer_1_1.c : ACode := .seq (.region F.parlkeep5_fewer_1_1.r0) (.seq (.region F.parlkeep5_fewer_1_1.r1) (.ret))
def F.parlkeep5_fewer_1_1 : AFunc := ⟨F.parlkeep5_fewer_1_1.c, [.tmp 3]⟩
/-! parlance/parlkeep5.accepts -/
def F.parlkeep5_accepts.r0 : List DOp := [
 Dd 2 (.box (.tmp 0)),
 Dd 4 (.mv (.const (.bool false)))]
def F.parlkeep5_accepts.r1 : List DOp := [
 Dd 8 (.load 3 true (.tmp 2)),
 Dd 9 (.mv (.tmp 1)),
 Dd 10 (.call I.dfa_Run [.tmp 8, .tmp 9]),
 Dd 7 (.mv (.tmp 10)),
 Dd 11 (.extract (.tmp 7) 0),
 Dd 12 (.extract (.tmp 7) 1),
 Dd 5 (.mv (.tmp 11)),
 Dd 6 (.mv (.tmp 12))]
def F.parlkeep5_accepts.r2 : List DOp := [
 Dd 13 (.mv (.tmp 6)),
 Dd 14 (.bin .eql (.tmp 13) (.const (.int .i64 0))),
 Dd 15 (.mv (.tmp 14)),
 ⟨some 16, .mv (.tmp 5), (some (15, true)), []⟩,
 ⟨some 17, .bin .geq (.tmp 16) (.const (.int .i64 0)), (some (15, true)), []⟩,
 Dd 18 (.pick (.tmp 15) (.tmp 17) (.const (.bool false))),
 Dd 4 (.mv (.tmp 18))]
def F.parlkeep5_accepts.c : ACode := .seq (.region F.parlkeep5_accepts.r0) (.seq (.region F.parlkeep5_accepts.r1) (.seq (.region F.parlkeep5_accepts.r2) (.ret)))
def F.parlkeep5_accepts : AFunc := ⟨F.parlkeep5_accepts.c, [.tmp 4]⟩
end Go.Proofs.Ytcdhhelgoppleaa
