/- The abstract code of package parlkeep5, written by wip/tools/gen.py from the translation. -/
import Derived.Test.YthgdobdhdfjhfaaI
namespace Go.Proofs.Ythgdobdhdfjhfaa
open Go Go.Ab
/-! parlance/parlkeep5.GuessLess -/
def F.parlkeep5_GuessLess.r0 : List DOp := [
 Dd 4 (.mv (.const (.bool false)))]
def F.parlkeep5_GuessLess.r1 : List DOp := [
 Dd 15 (.mv (.tmp 0)),
 Dd 16 (.call I.parlmake_Dfa [.tmp 15]),
 Dd 5 (.alloc [.int .i64 0, .slice none 0 0, .slice none 0 0]),
 De (.store 3 (.tmp 5) (.tmp 16))]
def F.parlkeep5_GuessLess.r2 : List DOp := [
 Dd 18 (.bslice 1 1 [.int .i64 0] [(0, 1, .const (.int .i64 0))]),
 Dd 19 (.bslice 1 1 [.slice none 0 0] [(0, 1, .tmp 18)]),
 Dd 20 (.bslice 1 0 [] []),
 Dd 21 (.bslice 1 1 [.slice none 0 0] [(0, 1, .tmp 20)]),
 Dd 22 (.call I.guess_Of [.const (.int .i64 1), .const (.int .i64 1), .tmp 19, .tmp 21]),
 Dd 17 (.mv (.tmp 22)),
 Dd 23 (.extract (.tmp 17) 0),
 Dd 24 (.extract (.tmp 17) 1),
 Dd 6 (.alloc [.int .i64 0, .int .i64 0, .int .i64 0, .slice none 0 0]),
 De (.store 4 (.tmp 6) (.tmp 23)),
 Dd 7 (.mv (.tmp 24))]
def F.parlkeep5_GuessLess.r3 : List DOp := [
 Dd 25 (.mv (.tmp 7)),
 Dd 26 (.bin .neq (.tmp 25) (.const (.int .i64 0))),
 Dd 27 (.mv (.tmp 26)),
 ⟨some 28, .faddr 3 (.tmp 6), (some (27, false)), []⟩,
 ⟨some 29, .load 1 false (.tmp 28), (some (27, false)), []⟩,
 ⟨some 30, .len (.tmp 29), (some (27, false)), []⟩,
 ⟨some 31, .bin .neq (.tmp 30) (.const (.int .i64 1)), (some (27, false)), []⟩,
 Dd 32 (.pick (.tmp 27) (.const (.bool true)) (.tmp 31))]
def F.parlkeep5_GuessLess.r4 : List DOp := [
 Dd 4 (.mv (.const (.bool false)))]
def F.parlkeep5_GuessLess.r5 : List DOp := [
 Dd 33 (.faddr 2 (.tmp 5)),
 Dd 34 (.load 1 false (.tmp 33)),
 Dd 35 (.idxs 1 (.tmp 34) (.const (.int .i64 0))),
 Dd 36 (.load 1 false (.tmp 35)),
 Dd 37 (.len (.tmp 36)),
 Dd 38 (.mm false [.const (.int .i64 2), .tmp 37]),
 Dd 8 (.mv (.tmp 38))]
def F.parlkeep5_GuessLess.r6 : List DOp := [
 Dd 40 (.load 3 true (.tmp 5)),
 Dd 41 (.mv (.tmp 8)),
 Dd 42 (.mv (.tmp 1)),
 Dd 43 (.call I.parlkeep5_fewer [.tmp 40, .tmp 41, .tmp 42]),
 Dd 39 (.mv (.tmp 43)),
 Dd 44 (.extract (.tmp 39) 0),
 Dd 45 (.extract (.tmp 39) 1),
 Dd 9 (.mv (.tmp 44)),
 Dd 10 (.mv (.tmp 45))]
def F.parlkeep5_GuessLess.r7 : List DOp := [
 Dd 47 (.mv (.tmp 8)),
 Dd 48 (.mv (.tmp 9)),
 Dd 49 (.mv (.tmp 10)),
 Dd 50 (.call I.guess_Of [.tmp 47, .const (.int .i64 1), .tmp 48, .tmp 49]),
 Dd 46 (.mv (.tmp 50)),
 Dd 51 (.extract (.tmp 46) 0),
 Dd 52 (.extract (.tmp 46) 1),
 Dd 11 (.alloc [.int .i64 0, .int .i64 0, .int .i64 0, .slice none 0 0]),
 De (.store 4 (.tmp 11) (.tmp 51)),
 Dd 12 (.mv (.tmp 52))]
def F.parlkeep5_GuessLess.r8 : List DOp := [
 Dd 53 (.mv (.tmp 12)),
 Dd 54 (.bin .neq (.tmp 53) (.const (.int .i64 0))),
 Dd 55 (.mv (.tmp 54)),
 ⟨some 56, .mv (.tmp 9), (some (55, false)), []⟩,
 ⟨some 57, .len (.tmp 56), (some (55, false)), []⟩,
 ⟨some 58, .bin .eql (.tmp 57) (.const (.int .i64 0)), (some (55, false)), []⟩,
 Dd 59 (.pick (.tmp 55) (.const (.bool true)) (.tmp 58))]
def F.parlkeep5_GuessLess.r9 : List DOp := [
 Dd 60 (.mv (.tmp 12)),
 Dd 61 (.bin .eql (.tmp 60) (.const (.int .i64 0))),
 Dd 62 (.mv (.tmp 61)),
 ⟨some 63, .mv (.tmp 12), (some (62, false)), []⟩,
 ⟨some 64, .bin .eql (.tmp 63) (.const (.int .i64 5)), (some (62, false)), []⟩,
 Dd 65 (.pick (.tmp 62) (.const (.bool true)) (.tmp 64)),
 Dd 4 (.mv (.tmp 65))]
def F.parlkeep5_GuessLess.r10 : List DOp := [
 Dd 67 (.mv (.tmp 8)),
 Dd 68 (.mv (.tmp 9)),
 Dd 69 (.slice 1 (.tmp 68) (some (.const (.int .i64 1))) none),
 Dd 70 (.mv (.tmp 10)),
 Dd 71 (.call I.guess_Of [.tmp 67, .const (.int .i64 1), .tmp 69, .tmp 70]),
 Dd 66 (.mv (.tmp 71)),
 Dd 72 (.extract (.tmp 66) 0),
 Dd 73 (.extract (.tmp 66) 1),
 Dd 13 (.alloc [.int .i64 0, .int .i64 0, .int .i64 0, .slice none 0 0]),
 De (.store 4 (.tmp 13) (.tmp 72)),
 Dd 14 (.mv (.tmp 73))]
def F.parlkeep5_GuessLess.r11 : List DOp := [
 Dd 74 (.mv (.tmp 14)),
 Dd 75 (.bin .eql (.tmp 74) (.const (.int .i64 0))),
 Dd 76 (.mv (.tmp 75)),
 ⟨some 77, .faddr 3 (.tmp 13), (some (76, true)), []⟩,
 ⟨some 78, .load 1 false (.tmp 77), (some (76, true)), []⟩,
 ⟨some 79, .len (.tmp 78), (some (76, true)), []⟩,
 ⟨some 80, .faddr 3 (.tmp 11), (some (76, true)), []⟩,
 ⟨some 81, .load 1 false (.tmp 80), (some (76, true)), []⟩,
 ⟨some 82, .len (.tmp 81), (some (76, true)), []⟩,
 ⟨some 83, .bin .leq (.tmp 79) (.tmp 82), (some (76, true)), []⟩,
 Dd 84 (.pick (.tmp 76) (.tmp 83) (.const (.bool false))),
 Dd 4 (.mv (.tmp 84))]
def F.parlkeep5_GuessLess.c : ACode := .seq (.region F.parlkeep5_GuessLess.r0) (.seq (.region F.parlkeep5_GuessLess.r1) (.seq (.seq (.region F.parlkeep5_GuessLess.r2) (.seq (.region F.parlkeep5_GuessLess.r3) (.cond (.tmp 32) (.seq (.region F.parlkeep5_GuessLess.r4) (.ret)) (.skip)))) (.seq (.region F.parlkeep5_GuessLess.r5) (.seq (.region F.parlkeep5_GuessLess.r6) (.seq (.region F.parlkeep5_GuessLess.r7) (.seq (.seq (.region F.parlkeep5_GuessLess.r8) (.cond (.tmp 59) (.seq (.region F.parlkeep5_GuessLess.r9) (.ret)) (.skip))) (.seq (.region F.parlkeep5_GuessLess.r10) (.seq (.region F.parlkeep5_GuessLess.r11) (.ret)))))))))
def F.parlkeep5_GuessLess : AFunc := ⟨F.parlkeep5_GuessLess.c, [.tmp 4]⟩
/-! parlance/parlkeep5.below -/
def F.parlkeep5_below.r0 : List DOp := [
 Dd 4 (.mv (.const (.int .i64 0)))]
def F.parlkeep5_below.r1 : List DOp := [
 Dd 5 (.mv (.tmp 0)),
 Dd 6 (.mv (.tmp 1)),
 Dd 7 (.call I.parlmake_Below [.tmp 5, .tmp 6]),
 Dd 4 (.mv (.tmp 7))]
def F.parlkeep5_below.c : ACode := .seq (.region F.parlkeep5_below.r0) (.seq (.region F.parlkeep5_below.r1) (.ret))
def F.parlkeep5_below : AFunc := ⟨F.parlkeep5_below.c, [.tmp 4]⟩
/-! parlance/parlkeep5.fewer -/
def F.parlkeep5_fewer.r0 : List DOp := [
 Dd 3 (.box (.tmp 0)),
 Dd 4 (.box (.tmp 1)),
 Dd 6 (.mv (.const (.slice none 0 0))),
 Dd 7 (.mv (.const (.slice none 0 0)))]
def F.parlkeep5_fewer.r1 : List DOp := [
 Dd 12 (.load 3 true (.tmp 3)),
 Dd 13 (.mv (.tmp 2)),
 Dd 14 (.call I.parlkeep5_examples [.tmp 12, .tmp 13]),
 Dd 11 (.mv (.tmp 14)),
 Dd 15 (.extract (.tmp 11) 0),
 Dd 16 (.extract (.tmp 11) 1),
 Dd 8 (.mv (.tmp 15)),
 Dd 9 (.mv (.tmp 16))]
def F.parlkeep5_fewer.r2 : List DOp := [
 Dd 17 (.mkfn (.func I.parlkeep5_fewer_1) [.tmp 4]),
 Dd 10 (.mv (.tmp 17))]
def F.parlkeep5_fewer.r3 : List DOp := [
 Dd 18 (.mv (.tmp 8)),
 Dd 19 (.mv (.tmp 10)),
 Dd 20 (.call I.slices_DeleteFunc_int_int [.tmp 18, .tmp 19]),
 Dd 21 (.mv (.tmp 9)),
 Dd 22 (.mv (.tmp 10)),
 Dd 23 (.call I.slices_DeleteFunc_int_int [.tmp 21, .tmp 22]),
 Dd 8 (.mv (.tmp 20)),
 Dd 9 (.mv (.tmp 23))]
def F.parlkeep5_fewer.r4 : List DOp := [
 Dd 24 (.mv (.tmp 8)),
 Dd 25 (.mv (.tmp 8)),
 Dd 26 (.len (.tmp 25)),
 Dd 27 (.mm false [.const (.int .i64 3), .tmp 26]),
 Dd 28 (.slice 1 (.tmp 24) none (some (.tmp 27))),
 Dd 29 (.mv (.tmp 9)),
 Dd 30 (.mv (.tmp 9)),
 Dd 31 (.len (.tmp 30)),
 Dd 32 (.mm false [.const (.int .i64 3), .tmp 31]),
 Dd 33 (.slice 1 (.tmp 29) none (some (.tmp 32))),
 Dd 6 (.mv (.tmp 28)),
 Dd 7 (.mv (.tmp 33))]
def F.parlkeep5_fewer.c : ACode := .seq (.region F.parlkeep5_fewer.r0) (.seq (.region F.parlkeep5_fewer.r1) (.seq (.region F.parlkeep5_fewer.r2) (.seq (.region F.parlkeep5_fewer.r3) (.seq (.draw F.parlkeep5_fewer.r4 []) (.ret)))))
def F.parlkeep5_fewer : AFunc := ⟨F.parlkeep5_fewer.c, [.tmp 6, .tmp 7]⟩
/-! parlance/parlkeep5.examples -/
def F.parlkeep5_examples.r0 : List DOp := [
 Dd 2 (.box (.tmp 0)),
 Dd 4 (.mv (.const (.slice none 0 0))),
 Dd 5 (.mv (.const (.slice none 0 0)))]
def F.parlkeep5_examples.r1 : List DOp := [
 Dd 6 (.mv (.const (.slice none 0 0))),
 Dd 7 (.mv (.const (.slice none 0 0)))]
def F.parlkeep5_examples.r2 : List DOp := [
 Dd 10 (.mv (.tmp 1)),
 Dd 11 (.len (.tmp 10)),
 Dd 12 (.bin .gtr (.tmp 11) (.const (.int .i64 0))),
 Dd 13 (.mv (.tmp 12)),
 ⟨some 14, .mv (.tmp 6), (some (13, true)), []⟩,
 ⟨some 15, .len (.tmp 14), (some (13, true)), []⟩,
 ⟨some 16, .mv (.tmp 7), (some (13, true)), []⟩,
 ⟨some 17, .len (.tmp 16), (some (13, true)), []⟩,
 ⟨some 18, .bin .add (.tmp 15) (.tmp 17), (some (13, true)), []⟩,
 ⟨some 19, .bin .lss (.tmp 18) (.const (.int .i64 12)), (some (13, true)), []⟩,
 Dd 20 (.pick (.tmp 13) (.tmp 19) (.const (.bool false)))]
def F.parlkeep5_examples.r3 : List DOp := [
 Dd 21 (.mv (.tmp 1)),
 Dd 22 (.idxs 1 (.tmp 21) (.const (.int .i64 0))),
 Dd 23 (.load 1 false (.tmp 22)),
 Dd 24 (.call I.parlkeep5_below [.tmp 23, .const (.int .i64 5)]),
 Dd 8 (.mv (.tmp 24))]
def F.parlkeep5_examples.r4 : List DOp := [
 Dd 25 (.mv (.tmp 1)),
 Dd 26 (.slice 1 (.tmp 25) (some (.const (.int .i64 1))) none),
 Dd 1 (.mv (.tmp 26))]
def F.parlkeep5_examples.r5 : List DOp := [
 Dd 27 (.faddr 2 (.tmp 2)),
 Dd 28 (.load 1 false (.tmp 27)),
 Dd 29 (.idxs 1 (.tmp 28) (.const (.int .i64 0))),
 Dd 30 (.load 1 false (.tmp 29)),
 Dd 31 (.len (.tmp 30)),
 Dd 32 (.mv (.tmp 8)),
 Dd 33 (.mv (.tmp 1)),
 Dd 34 (.call I.parlmake_Word [.tmp 31, .tmp 32, .tmp 33]),
 Dd 9 (.mv (.tmp 34))]
def F.parlkeep5_examples.r6 : List DOp := [
 Dd 35 (.mv (.tmp 1)),
 Dd 36 (.mv (.tmp 1)),
 Dd 37 (.len (.tmp 36)),
 Dd 38 (.mv (.tmp 8)),
 Dd 39 (.mm false [.tmp 37, .tmp 38]),
 Dd 40 (.slice 1 (.tmp 35) (some (.tmp 39)) none),
 Dd 1 (.mv (.tmp 40))]
def F.parlkeep5_examples.r7 : List DOp := [
 Dd 41 (.load 3 true (.tmp 2)),
 Dd 42 (.mv (.tmp 9)),
 Dd 43 (.call I.parlkeep5_accepts [.tmp 41, .tmp 42])]
def F.parlkeep5_examples.r8 : List DOp := [
 Dd 44 (.mv (.tmp 6)),
 Dd 45 (.mv (.tmp 9)),
 Dd 46 (.bslice 1 1 [.slice none 0 0] [(0, 1, .tmp 45)]),
 Dd 47 (.append 1 24 (.tmp 44) (.tmp 46)),
 Dd 6 (.mv (.tmp 47))]
def F.parlkeep5_examples.r9 : List DOp := [
 Dd 48 (.mv (.tmp 7)),
 Dd 49 (.mv (.tmp 9)),
 Dd 50 (.bslice 1 1 [.slice none 0 0] [(0, 1, .tmp 49)]),
 Dd 51 (.append 1 24 (.tmp 48) (.tmp 50)),
 Dd 7 (.mv (.tmp 51))]
def F.parlkeep5_examples.L0 : ACode := .seq (.seq (.region F.parlkeep5_examples.r2) (.cond (.tmp 20) (.skip) (.exit 0))) (.block 1 (.seq (.region F.parlkeep5_examples.r3) (.seq (.region F.parlkeep5_examples.r4) (.seq (.region F.parlkeep5_examples.r5) (.seq (.region F.parlkeep5_examples.r6) (.seq (.region F.parlkeep5_examples.r7) (.cond (.tmp 43) (.region F.parlkeep5_examples.r8) (.region F.parlkeep5_examples.r9))))))))
def F.parlkeep5_examples.r10 : List DOp := [
 Dd 52 (.mv (.tmp 6)),
 Dd 53 (.mv (.tmp 7)),
 Dd 4 (.mv (.tmp 52)),
 Dd 5 (.mv (.tmp 53))]
def F.parlkeep5_examples.c : ACode := .seq (.region F.parlkeep5_examples.r0) (.seq (.region F.parlkeep5_examples.r1) (.seq (.block 0 (.loop F.parlkeep5_examples.L0)) (.seq (.region F.parlkeep5_examples.r10) (.ret))))
def F.parlkeep5_examples : AFunc := ⟨F.parlkeep5_examples.c, [.tmp 4, .tmp 5]⟩
/-! parlance/parlkeep5.fewer$1 -/
def F.parlkeep5_fewer_1.r0 : List DOp := [
 Dd 3 (.mv (.const (.bool false)))]
def F.parlkeep5_fewer_1.r1 : List DOp := [
 Dd 4 (.mv (.tmp 0)),
 Dd 5 (.mkfn (.func I.parlkeep5_fewer_1_1) [.tmp 1]),
 Dd 6 (.call I.slices_ContainsFunc_int_int [.tmp 4, .tmp 5]),
 Dd 3 (.mv (.tmp 6))]
def F.parlkeep5_fewer_1.c : ACode := .seq (.region F.parlkeep5_fewer_1.r0) (.seq (.region F.parlkeep5_fewer_1.r1) (.ret))
def F.parlkeep5_fewer_1 : AFunc := ⟨F.parlkeep5_fewer_1.c, [.tmp 3]⟩
/-! parlance/parlkeep5.fewer$1$1 -/
def F.parlkeep5_fewer_1_1.r0 : List DOp := [
 Dd 3 (.mv (.const (.bool false)))]
def F.parlkeep5_fewer_1_1.r1 : List DOp := [
 Dd 4 (.mv (.tmp 0)),
 Dd 5 (.load 1 false (.tmp 1)),
 Dd 6 (.bin .geq (.tmp 4) (.tmp 5)),
 Dd 3 (.mv (.tmp 6))]
def F.parlkeep5_fewer_1_1.c : ACode := .seq (.region F.parlkeep5_fewer_1_1.r0) (.seq (.region F.parlkeep5_fewer_1_1.r1) (.ret))
def F.parlkeep5_fewer_1_1 : AFunc := ⟨F.parlkeep5_fewer_1_1.c, [.tmp 3]⟩
/-! parlance/parlkeep5.accepts -/
def F.parlkeep5_accepts.r0 : List DOp := [
 Dd 2 (.box (.tmp 0)),
 Dd 4 (.mv (.const (.bool false)))]
def F.parlkeep5_accepts.r1 : List DOp := [
 Dd 8 (.load 3 true (.tmp 2)),
 Dd 9 (.mv (.tmp 1)),
 Dd 10 (.call I.dfa_Run [.tmp 8, .tmp 9]),
 Dd 7 (.mv (.tmp 10)),
 Dd 11 (.extract (.tmp 7) 0),
 Dd 12 (.extract (.tmp 7) 1),
 Dd 5 (.mv (.tmp 11)),
 Dd 6 (.mv (.tmp 12))]
def F.parlkeep5_accepts.r2 : List DOp := [
 Dd 13 (.mv (.tmp 6)),
 Dd 14 (.bin .eql (.tmp 13) (.const (.int .i64 0))),
 Dd 15 (.mv (.tmp 14)),
 ⟨some 16, .mv (.tmp 5), (some (15, true)), []⟩,
 ⟨some 17, .bin .geq (.tmp 16) (.const (.int .i64 0)), (some (15, true)), []⟩,
 Dd 18 (.pick (.tmp 15) (.tmp 17) (.const (.bool false))),
 Dd 4 (.mv (.tmp 18))]
def F.parlkeep5_accepts.c : ACode := .seq (.region F.parlkeep5_accepts.r0) (.seq (.region F.parlkeep5_accepts.r1) (.seq (.region F.parlkeep5_accepts.r2) (.ret)))
def F.parlkeep5_accepts : AFunc := ⟨F.parlkeep5_accepts.c, [.tmp 4]⟩
end Go.Proofs.Ythgdobdhdfjhfaa
