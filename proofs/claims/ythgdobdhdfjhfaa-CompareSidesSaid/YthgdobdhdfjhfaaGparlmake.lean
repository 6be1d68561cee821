/- The abstract code of package parlmake, written by wip/tools/gen.py from the translation. -/
import Derived.Test.YthgdobdhdfjhfaaI
namespace Go.Proofs.Ythgdobdhdfjhfaa
open Go Go.Ab
/-! parlance/parlmake.Grammar -/
def F.parlmake_Grammar.r0 : List DOp := [
 Dd 2 (.alloc [.int .i64 0, .int .i64 0, .int .i64 0, .slice none 0 0])]
def F.parlmake_Grammar.r1 : List DOp := [
 Dd 6 (.mv (.tmp 0)),
 Dd 7 (.build [.slice none 0 0] [(0, 1, .tmp 6)]),
 Dd 8 (.box (.tmp 7)),
 Dd 3 (.mv (.tmp 8))]
def F.parlmake_Grammar.r2 : List DOp := [
 Dd 9 (.mv (.tmp 3)),
 Dd 10 (.call I.parlmake_stream_next [.tmp 9, .const (.int .i64 3)]),
 Dd 11 (.bin .add (.const (.int .i64 1)) (.tmp 10)),
 Dd 12 (.mv (.tmp 3)),
 Dd 13 (.call I.parlmake_stream_next [.tmp 12, .const (.int .i64 4)]),
 Dd 14 (.bin .add (.const (.int .i64 1)) (.tmp 13)),
 Dd 15 (.build [.int .i64 0, .int .i64 0, .int .i64 0, .slice none 0 0] [(0, 1, .tmp 11), (1, 1, .tmp 14)]),
 Dd 4 (.alloc [.int .i64 0, .int .i64 0, .int .i64 0, .slice none 0 0]),
 De (.store 4 (.tmp 4) (.tmp 15))]
def F.parlmake_Grammar.r3 : List DOp := [
 Dd 16 (.mv (.tmp 3)),
 Dd 17 (.faddr 1 (.tmp 4)),
 Dd 18 (.load 1 false (.tmp 17)),
 Dd 19 (.call I.parlmake_stream_next [.tmp 16, .tmp 18]),
 Dd 20 (.faddr 2 (.tmp 4)),
 De (.store 1 (.tmp 20) (.tmp 19))]
def F.parlmake_Grammar.r4 : List DOp := [
 Dd 21 (.mv (.tmp 3)),
 Dd 22 (.call I.parlmake_stream_next [.tmp 21, .const (.int .i64 8)]),
 Dd 23 (.bin .add (.const (.int .i64 1)) (.tmp 22)),
 Dd 24 (.mv (.const (.int .i64 0)))]
def F.parlmake_Grammar.r5 : List DOp := [
 Dd 25 (.bin .lss (.tmp 24) (.tmp 23))]
def F.parlmake_Grammar.r6 : List DOp := [
 Dd 26 (.mv (.tmp 3)),
 Dd 27 (.faddr 1 (.tmp 4)),
 Dd 28 (.load 1 false (.tmp 27)),
 Dd 29 (.call I.parlmake_stream_next [.tmp 26, .tmp 28]),
 Dd 30 (.build [.int .i64 0, .slice none 0 0] [(0, 1, .tmp 29)]),
 Dd 5 (.alloc [.int .i64 0, .slice none 0 0]),
 De (.store 2 (.tmp 5) (.tmp 30))]
def F.parlmake_Grammar.r7 : List DOp := [
 Dd 31 (.mv (.tmp 3)),
 Dd 32 (.call I.parlmake_stream_next [.tmp 31, .const (.int .i64 4)]),
 Dd 33 (.mv (.const (.int .i64 0)))]
def F.parlmake_Grammar.r8 : List DOp := [
 Dd 34 (.bin .lss (.tmp 33) (.tmp 32))]
def F.parlmake_Grammar.r9 : List DOp := [
 Dd 35 (.mv (.tmp 3)),
 Dd 36 (.call I.parlmake_stream_next [.tmp 35, .const (.int .i64 2)]),
 Dd 37 (.bin .eql (.tmp 36) (.const (.int .i64 0)))]
def F.parlmake_Grammar.r10 : List DOp := [
 Dd 38 (.faddr 1 (.tmp 5)),
 Dd 39 (.load 1 false (.tmp 38)),
 Dd 40 (.mv (.tmp 3)),
 Dd 41 (.faddr 0 (.tmp 4)),
 Dd 42 (.load 1 false (.tmp 41)),
 Dd 43 (.call I.parlmake_stream_next [.tmp 40, .tmp 42]),
 Dd 44 (.build [.bool false, .int .i64 0] [(0, 1, .const (.bool true)), (1, 1, .tmp 43)]),
 Dd 45 (.bslice 2 1 [.bool false, .int .i64 0] [(0, 2, .tmp 44)]),
 Dd 46 (.append 2 16 (.tmp 39) (.tmp 45)),
 Dd 47 (.faddr 1 (.tmp 5)),
 De (.store 1 (.tmp 47) (.tmp 46))]
def F.parlmake_Grammar.r11 : List DOp := [
 Dd 48 (.faddr 1 (.tmp 5)),
 Dd 49 (.load 1 false (.tmp 48)),
 Dd 50 (.mv (.tmp 3)),
 Dd 51 (.faddr 1 (.tmp 4)),
 Dd 52 (.load 1 false (.tmp 51)),
 Dd 53 (.call I.parlmake_stream_next [.tmp 50, .tmp 52]),
 Dd 54 (.build [.bool false, .int .i64 0] [(1, 1, .tmp 53)]),
 Dd 55 (.bslice 2 1 [.bool false, .int .i64 0] [(0, 2, .tmp 54)]),
 Dd 56 (.append 2 16 (.tmp 49) (.tmp 55)),
 Dd 57 (.faddr 1 (.tmp 5)),
 De (.store 1 (.tmp 57) (.tmp 56))]
def F.parlmake_Grammar.r12 : List DOp := [
 Dd 58 (.bin .add (.tmp 33) (.const (.int .i64 1))),
 Dd 33 (.mv (.tmp 58))]
def F.parlmake_Grammar.L1 : ACode := .seq (.region F.parlmake_Grammar.r8) (.seq (.cond (.tmp 34) (.skip) (.exit 2)) (.seq (.block 3 (.seq (.region F.parlmake_Grammar.r9) (.cond (.tmp 37) (.draw F.parlmake_Grammar.r10 [(1, 5)]) (.draw F.parlmake_Grammar.r11 [(1, 5)])))) (.region F.parlmake_Grammar.r12)))
def F.parlmake_Grammar.r13 : List DOp := [
 Dd 59 (.faddr 3 (.tmp 4)),
 Dd 60 (.load 1 false (.tmp 59)),
 Dd 61 (.load 2 true (.tmp 5)),
 Dd 62 (.call I.parlmake_has [.tmp 60, .tmp 61]),
 Dd 63 (.un .not (.tmp 62))]
def F.parlmake_Grammar.r14 : List DOp := [
 Dd 64 (.faddr 3 (.tmp 4)),
 Dd 65 (.load 1 false (.tmp 64)),
 Dd 66 (.load 2 true (.tmp 5)),
 Dd 67 (.bslice 2 1 [.int .i64 0, .slice none 0 0] [(0, 2, .tmp 66)]),
 Dd 68 (.append 2 32 (.tmp 65) (.tmp 67)),
 Dd 69 (.faddr 3 (.tmp 4)),
 De (.store 1 (.tmp 69) (.tmp 68))]
def F.parlmake_Grammar.r15 : List DOp := [
 Dd 70 (.bin .add (.tmp 24) (.const (.int .i64 1))),
 Dd 24 (.mv (.tmp 70))]
def F.parlmake_Grammar.L0 : ACode := .seq (.region F.parlmake_Grammar.r5) (.seq (.cond (.tmp 25) (.skip) (.exit 0)) (.seq (.block 1 (.seq (.region F.parlmake_Grammar.r6) (.seq (.seq (.region F.parlmake_Grammar.r7) (.block 2 (.loop F.parlmake_Grammar.L1))) (.seq (.region F.parlmake_Grammar.r13) (.cond (.tmp 63) (.region F.parlmake_Grammar.r14) (.skip)))))) (.region F.parlmake_Grammar.r15)))
def F.parlmake_Grammar.r16 : List DOp := [
 Dd 71 (.load 4 true (.tmp 4)),
 De (.store 4 (.tmp 2) (.tmp 71))]
def F.parlmake_Grammar.c : ACode := .seq (.region F.parlmake_Grammar.r0) (.seq (.region F.parlmake_Grammar.r1) (.seq (.region F.parlmake_Grammar.r2) (.seq (.region F.parlmake_Grammar.r3) (.seq (.seq (.region F.parlmake_Grammar.r4) (.block 0 (.loop F.parlmake_Grammar.L0))) (.seq (.region F.parlmake_Grammar.r16) (.ret))))))
def F.parlmake_Grammar : AFunc := ⟨F.parlmake_Grammar.c, [.cell 2 4 true]⟩
/-! (*parlance/parlmake.stream).next -/
def F.parlmake_stream_next.r0 : List DOp := [
 Dd 4 (.mv (.const (.int .i64 0)))]
def F.parlmake_stream_next.r1 : List DOp := [
 Dd 6 (.mv (.tmp 0)),
 Dd 7 (.nilchk (.tmp 6)),
 Dd 8 (.faddr 0 (.tmp 7)),
 Dd 9 (.load 1 false (.tmp 8)),
 Dd 10 (.len (.tmp 9)),
 Dd 11 (.bin .eql (.tmp 10) (.const (.int .i64 0)))]
def F.parlmake_stream_next.r2 : List DOp := [
 Dd 4 (.mv (.const (.int .i64 0)))]
def F.parlmake_stream_next.r3 : List DOp := [
 Dd 12 (.mv (.tmp 0)),
 Dd 13 (.nilchk (.tmp 12)),
 Dd 14 (.faddr 0 (.tmp 13)),
 Dd 15 (.load 1 false (.tmp 14)),
 Dd 16 (.idxs 1 (.tmp 15) (.const (.int .i64 0))),
 Dd 17 (.load 1 false (.tmp 16)),
 Dd 5 (.mv (.tmp 17))]
def F.parlmake_stream_next.r4 : List DOp := [
 Dd 18 (.mv (.tmp 0)),
 Dd 19 (.mv (.tmp 0)),
 Dd 20 (.nilchk (.tmp 19)),
 Dd 21 (.faddr 0 (.tmp 20)),
 Dd 22 (.load 1 false (.tmp 21)),
 Dd 23 (.slice 1 (.tmp 22) (some (.const (.int .i64 1))) none),
 Dd 24 (.nilchk (.tmp 18)),
 Dd 25 (.faddr 0 (.tmp 24)),
 De (.store 1 (.tmp 25) (.tmp 23))]
def F.parlmake_stream_next.r5 : List DOp := [
 Dd 26 (.mv (.tmp 5)),
 Dd 27 (.mv (.tmp 1)),
 Dd 28 (.call I.parlmake_Below [.tmp 26, .tmp 27]),
 Dd 4 (.mv (.tmp 28))]
def F.parlmake_stream_next.c : ACode := .seq (.region F.parlmake_stream_next.r0) (.seq (.seq (.region F.parlmake_stream_next.r1) (.cond (.tmp 11) (.seq (.region F.parlmake_stream_next.r2) (.ret)) (.skip))) (.seq (.region F.parlmake_stream_next.r3) (.seq (.region F.parlmake_stream_next.r4) (.seq (.region F.parlmake_stream_next.r5) (.ret)))))
def F.parlmake_stream_next : AFunc := ⟨F.parlmake_stream_next.c, [.tmp 4]⟩
/-! parlance/parlmake.has -/
def F.parlmake_has.r0 : List DOp := [
 Dd 3 (.box (.tmp 1)),
 Dd 4 (.mv (.const (.bool false)))]
def F.parlmake_has.r1 : List DOp := [
 Dd 9 (.mv (.tmp 0)),
 Dd 10 (.len (.tmp 9)),
 Dd 11 (.mv (.const (.int .i64 0)))]
def F.parlmake_has.r2 : List DOp := [
 Dd 12 (.bin .lss (.tmp 11) (.tmp 10))]
def F.parlmake_has.r3 : List DOp := [
 Dd 13 (.idxs 2 (.tmp 9) (.tmp 11)),
 Dd 14 (.load 2 true (.tmp 13)),
 Dd 6 (.alloc [.int .i64 0, .slice none 0 0]),
 De (.store 2 (.tmp 6) (.tmp 14))]
def F.parlmake_has.r4 : List DOp := [
 Dd 15 (.faddr 0 (.tmp 6)),
 Dd 16 (.load 1 false (.tmp 15)),
 Dd 17 (.faddr 0 (.tmp 3)),
 Dd 18 (.load 1 false (.tmp 17)),
 Dd 19 (.bin .neq (.tmp 16) (.tmp 18)),
 Dd 20 (.mv (.tmp 19)),
 ⟨some 21, .faddr 1 (.tmp 6), (some (20, false)), []⟩,
 ⟨some 22, .load 1 false (.tmp 21), (some (20, false)), []⟩,
 ⟨some 23, .len (.tmp 22), (some (20, false)), []⟩,
 ⟨some 24, .faddr 1 (.tmp 3), (some (20, false)), []⟩,
 ⟨some 25, .load 1 false (.tmp 24), (some (20, false)), []⟩,
 ⟨some 26, .len (.tmp 25), (some (20, false)), []⟩,
 ⟨some 27, .bin .neq (.tmp 23) (.tmp 26), (some (20, false)), []⟩,
 Dd 28 (.pick (.tmp 20) (.const (.bool true)) (.tmp 27))]
def F.parlmake_has.r5 : List DOp := [
 Dd 7 (.mv (.const (.bool true)))]
def F.parlmake_has.r6 : List DOp := [
 Dd 29 (.faddr 1 (.tmp 6)),
 Dd 30 (.load 1 false (.tmp 29)),
 Dd 31 (.len (.tmp 30)),
 Dd 32 (.mv (.const (.int .i64 0)))]
def F.parlmake_has.r7 : List DOp := [
 Dd 33 (.bin .lss (.tmp 32) (.tmp 31))]
def F.parlmake_has.r8 : List DOp := [
 Dd 34 (.mv (.tmp 32)),
 Dd 8 (.mv (.tmp 34))]
def F.parlmake_has.r9 : List DOp := [
 Dd 35 (.mv (.tmp 7)),
 Dd 36 (.mv (.tmp 35)),
 ⟨some 37, .faddr 1 (.tmp 6), (some (36, true)), []⟩,
 ⟨some 38, .load 1 false (.tmp 37), (some (36, true)), []⟩,
 ⟨some 39, .mv (.tmp 8), (some (36, true)), []⟩,
 ⟨some 40, .idxs 2 (.tmp 38) (.tmp 39), (some (36, true)), []⟩,
 ⟨some 41, .load 2 true (.tmp 40), (some (36, true)), []⟩,
 ⟨some 42, .faddr 1 (.tmp 3), (some (36, true)), []⟩,
 ⟨some 43, .load 1 false (.tmp 42), (some (36, true)), []⟩,
 ⟨some 44, .mv (.tmp 8), (some (36, true)), []⟩,
 ⟨some 45, .idxs 2 (.tmp 43) (.tmp 44), (some (36, true)), []⟩,
 ⟨some 46, .load 2 true (.tmp 45), (some (36, true)), []⟩,
 ⟨some 47, .eq false (.struct [(0, .bool), (1, .int)]) (.tmp 41) (.tmp 46), (some (36, true)), []⟩,
 Dd 48 (.pick (.tmp 36) (.tmp 47) (.const (.bool false))),
 Dd 7 (.mv (.tmp 48))]
def F.parlmake_has.r10 : List DOp := [
 Dd 49 (.bin .add (.tmp 32) (.const (.int .i64 1))),
 Dd 32 (.mv (.tmp 49))]
def F.parlmake_has.L1 : ACode := .seq (.region F.parlmake_has.r7) (.seq (.cond (.tmp 33) (.skip) (.exit 2)) (.seq (.block 3 (.seq (.region F.parlmake_has.r8) (.draw F.parlmake_has.r9 []))) (.region F.parlmake_has.r10)))
def F.parlmake_has.r11 : List DOp := [
 Dd 50 (.mv (.tmp 7))]
def F.parlmake_has.r12 : List DOp := [
 Dd 4 (.mv (.const (.bool true)))]
def F.parlmake_has.r13 : List DOp := [
 Dd 51 (.bin .add (.tmp 11) (.const (.int .i64 1))),
 Dd 11 (.mv (.tmp 51))]
def F.parlmake_has.L0 : ACode := .seq (.region F.parlmake_has.r2) (.seq (.cond (.tmp 12) (.skip) (.exit 0)) (.seq (.block 1 (.seq (.region F.parlmake_has.r3) (.seq (.seq (.region F.parlmake_has.r4) (.cond (.tmp 28) (.exit 1) (.skip))) (.seq (.region F.parlmake_has.r5) (.seq (.seq (.region F.parlmake_has.r6) (.block 2 (.loop F.parlmake_has.L1))) (.seq (.region F.parlmake_has.r11) (.cond (.tmp 50) (.seq (.region F.parlmake_has.r12) (.ret)) (.skip)))))))) (.region F.parlmake_has.r13)))
def F.parlmake_has.r14 : List DOp := [
 Dd 4 (.mv (.const (.bool false)))]
def F.parlmake_has.c : ACode := .seq (.region F.parlmake_has.r0) (.seq (.seq (.region F.parlmake_has.r1) (.block 0 (.loop F.parlmake_has.L0))) (.seq (.region F.parlmake_has.r14) (.ret)))
def F.parlmake_has : AFunc := ⟨F.parlmake_has.c, [.tmp 4]⟩
/-! parlance/parlmake.Below -/
def F.parlmake_Below.r0 : List DOp := [
 Dd 4 (.mv (.const (.int .i64 0)))]
def F.parlmake_Below.r1 : List DOp := [
 Dd 5 (.mv (.tmp 0)),
 Dd 6 (.mv (.tmp 1)),
 Dd 7 (.bin .rem (.tmp 5) (.tmp 6)),
 Dd 0 (.mv (.tmp 7))]
def F.parlmake_Below.r2 : List DOp := [
 Dd 8 (.mv (.tmp 0)),
 Dd 9 (.bin .lss (.tmp 8) (.const (.int .i64 0)))]
def F.parlmake_Below.r3 : List DOp := [
 Dd 10 (.mv (.tmp 0)),
 Dd 11 (.mv (.tmp 1)),
 Dd 12 (.bin .add (.tmp 10) (.tmp 11)),
 Dd 0 (.mv (.tmp 12))]
def F.parlmake_Below.r4 : List DOp := [
 Dd 13 (.mv (.tmp 0)),
 Dd 4 (.mv (.tmp 13))]
def F.parlmake_Below.c : ACode := .seq (.region F.parlmake_Below.r0) (.seq (.region F.parlmake_Below.r1) (.seq (.seq (.region F.parlmake_Below.r2) (.cond (.tmp 9) (.region F.parlmake_Below.r3) (.skip))) (.seq (.region F.parlmake_Below.r4) (.ret))))
def F.parlmake_Below : AFunc := ⟨F.parlmake_Below.c, [.tmp 4]⟩
end Go.Proofs.Ythgdobdhdfjhfaa
