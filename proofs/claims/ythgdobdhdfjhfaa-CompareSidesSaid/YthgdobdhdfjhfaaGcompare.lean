/- The abstract code of package compare, written by wip/tools/gen.py from the translation. -/
import Derived.Test.YthgdobdhdfjhfaaI
namespace Go.Proofs.Ythgdobdhdfjhfaa
open Go Go.Ab
/-! parlance/compare.Least -/
def F.compare_Least.r0 : List DOp := [
 Dd 3 (.box (.tmp 0)),
 Dd 4 (.box (.tmp 1)),
 Dd 6 (.mv (.const (.slice none 0 0))),
 Dd 7 (.mv (.const (.int .i64 0))),
 Dd 8 (.mv (.const (.int .i64 0)))]
def F.compare_Least.r1 : List DOp := [
 Dd 17 (.load 4 true (.tmp 3)),
 Dd 18 (.call I.gram_Check [.tmp 17]),
 Dd 9 (.mv (.tmp 18))]
def F.compare_Least.r2 : List DOp := [
 Dd 19 (.mv (.tmp 9)),
 Dd 20 (.bin .neq (.tmp 19) (.const (.int .i64 0)))]
def F.compare_Least.r3 : List DOp := [
 Dd 21 (.mv (.tmp 9)),
 Dd 6 (.mv (.const (.slice none 0 0))),
 Dd 7 (.mv (.const (.int .i64 0))),
 Dd 8 (.mv (.tmp 21))]
def F.compare_Least.r4 : List DOp := [
 Dd 22 (.load 4 true (.tmp 4)),
 Dd 23 (.call I.gram_Check [.tmp 22]),
 Dd 10 (.mv (.tmp 23))]
def F.compare_Least.r5 : List DOp := [
 Dd 24 (.mv (.tmp 10)),
 Dd 25 (.bin .neq (.tmp 24) (.const (.int .i64 0)))]
def F.compare_Least.r6 : List DOp := [
 Dd 26 (.mv (.tmp 10)),
 Dd 6 (.mv (.const (.slice none 0 0))),
 Dd 7 (.mv (.const (.int .i64 0))),
 Dd 8 (.mv (.tmp 26))]
def F.compare_Least.r7 : List DOp := [
 Dd 27 (.faddr 0 (.tmp 3)),
 Dd 28 (.load 1 false (.tmp 27)),
 Dd 29 (.faddr 0 (.tmp 4)),
 Dd 30 (.load 1 false (.tmp 29)),
 Dd 31 (.bin .neq (.tmp 28) (.tmp 30)),
 Dd 32 (.mv (.tmp 31)),
 ⟨some 33, .mv (.tmp 2), (some (32, false)), []⟩,
 ⟨some 34, .bin .lss (.tmp 33) (.const (.int .i64 0)), (some (32, false)), []⟩,
 Dd 35 (.pick (.tmp 32) (.const (.bool true)) (.tmp 34)),
 Dd 36 (.mv (.tmp 35)),
 ⟨some 37, .mv (.tmp 2), (some (36, false)), []⟩,
 ⟨some 38, .bin .gtr (.tmp 37) (.const (.int .i64 12)), (some (36, false)), []⟩,
 Dd 39 (.pick (.tmp 36) (.const (.bool true)) (.tmp 38))]
def F.compare_Least.r8 : List DOp := [
 Dd 6 (.mv (.const (.slice none 0 0))),
 Dd 7 (.mv (.const (.int .i64 0))),
 Dd 8 (.mv (.const (.int .i64 1)))]
def F.compare_Least.r9 : List DOp := [
 Dd 40 (.faddr 0 (.tmp 3)),
 Dd 41 (.load 1 false (.tmp 40)),
 Dd 42 (.mv (.tmp 2)),
 Dd 43 (.call I.compare_words [.tmp 41, .tmp 42]),
 Dd 44 (.bin .gtr (.tmp 43) (.const (.int .i64 500)))]
def F.compare_Least.r10 : List DOp := [
 Dd 6 (.mv (.const (.slice none 0 0))),
 Dd 7 (.mv (.const (.int .i64 0))),
 Dd 8 (.mv (.const (.int .i64 2)))]
def F.compare_Least.r11 : List DOp := [
 Dd 45 (.mv (.tmp 2)),
 Dd 46 (.bin .add (.tmp 45) (.const (.int .i64 1))),
 Dd 47 (.mv (.const (.int .i64 0)))]
def F.compare_Least.r12 : List DOp := [
 Dd 48 (.bin .lss (.tmp 47) (.tmp 46))]
def F.compare_Least.r13 : List DOp := [
 Dd 49 (.mv (.tmp 47)),
 Dd 11 (.mv (.tmp 49))]
def F.compare_Least.r14 : List DOp := [
 Dd 50 (.mv (.tmp 11)),
 Dd 51 (.mkslice 1 8 [.int .i64 0] (.tmp 50) (.tmp 50)),
 Dd 12 (.mv (.tmp 51))]
def F.compare_Least.r15 : List DOp := [
 Dd 53 (.load 4 true (.tmp 3)),
 Dd 54 (.mv (.tmp 12)),
 Dd 55 (.call I.mean_Accepts [.tmp 53, .tmp 54]),
 Dd 52 (.mv (.tmp 55)),
 Dd 56 (.extract (.tmp 52) 0),
 Dd 57 (.extract (.tmp 52) 1),
 Dd 13 (.mv (.tmp 56)),
 Dd 14 (.mv (.tmp 57))]
def F.compare_Least.r16 : List DOp := [
 Dd 59 (.load 4 true (.tmp 4)),
 Dd 60 (.mv (.tmp 12)),
 Dd 61 (.call I.mean_Accepts [.tmp 59, .tmp 60]),
 Dd 58 (.mv (.tmp 61)),
 Dd 62 (.extract (.tmp 58) 0),
 Dd 63 (.extract (.tmp 58) 1),
 Dd 15 (.mv (.tmp 62)),
 Dd 16 (.mv (.tmp 63))]
def F.compare_Least.r17 : List DOp := [
 Dd 65 (.mv (.tmp 13)),
 Dd 66 (.mv (.tmp 65)),
 ⟨some 67, .mv (.tmp 15), (some (66, true)), []⟩,
 ⟨some 68, .un .not (.tmp 67), (some (66, true)), []⟩,
 Dd 69 (.pick (.tmp 66) (.tmp 68) (.const (.bool false))),
 Dd 64 (.mv (.tmp 69))]
def F.compare_Least.r18 : List DOp := [
 Dd 70 (.mv (.tmp 12)),
 Dd 6 (.mv (.tmp 70)),
 Dd 7 (.mv (.const (.int .i64 1))),
 Dd 8 (.mv (.const (.int .i64 0)))]
def F.compare_Least.r19 : List DOp := [
 Dd 72 (.mv (.tmp 15)),
 Dd 73 (.mv (.tmp 72)),
 ⟨some 74, .mv (.tmp 13), (some (73, true)), []⟩,
 ⟨some 75, .un .not (.tmp 74), (some (73, true)), []⟩,
 Dd 76 (.pick (.tmp 73) (.tmp 75) (.const (.bool false))),
 Dd 71 (.mv (.tmp 76))]
def F.compare_Least.r20 : List DOp := [
 Dd 77 (.mv (.tmp 12)),
 Dd 6 (.mv (.tmp 77)),
 Dd 7 (.mv (.const (.int .i64 2))),
 Dd 8 (.mv (.const (.int .i64 0)))]
def F.compare_Least.r21 : List DOp := [
 Dd 78 (.mv (.tmp 12)),
 Dd 79 (.faddr 0 (.tmp 3)),
 Dd 80 (.load 1 false (.tmp 79)),
 Dd 81 (.call I.compare_next [.tmp 78, .tmp 80]),
 Dd 82 (.un .not (.tmp 81))]
def F.compare_Least.L1 : ACode := .block 3 (.seq (.region F.compare_Least.r15) (.seq (.region F.compare_Least.r16) (.seq (.block 4 (.seq (.region F.compare_Least.r17) (.cond (.tmp 64) (.seq (.region F.compare_Least.r18) (.ret)) (.seq (.region F.compare_Least.r19) (.cond (.tmp 71) (.seq (.region F.compare_Least.r20) (.ret)) (.skip)))))) (.seq (.region F.compare_Least.r21) (.cond (.tmp 82) (.exit 2) (.skip))))))
def F.compare_Least.r22 : List DOp := [
 Dd 83 (.bin .add (.tmp 47) (.const (.int .i64 1))),
 Dd 47 (.mv (.tmp 83))]
def F.compare_Least.L0 : ACode := .seq (.region F.compare_Least.r12) (.seq (.cond (.tmp 48) (.skip) (.exit 0)) (.seq (.block 1 (.seq (.region F.compare_Least.r13) (.seq (.region F.compare_Least.r14) (.block 2 (.loop F.compare_Least.L1))))) (.region F.compare_Least.r22)))
def F.compare_Least.r23 : List DOp := [
 Dd 6 (.mv (.const (.slice none 0 0))),
 Dd 7 (.mv (.const (.int .i64 0))),
 Dd 8 (.mv (.const (.int .i64 5)))]
def F.compare_Least.c : ACode := .seq (.region F.compare_Least.r0) (.seq (.seq (.region F.compare_Least.r1) (.seq (.region F.compare_Least.r2) (.cond (.tmp 20) (.seq (.region F.compare_Least.r3) (.ret)) (.skip)))) (.seq (.seq (.region F.compare_Least.r4) (.seq (.region F.compare_Least.r5) (.cond (.tmp 25) (.seq (.region F.compare_Least.r6) (.ret)) (.skip)))) (.seq (.seq (.region F.compare_Least.r7) (.cond (.tmp 39) (.seq (.region F.compare_Least.r8) (.ret)) (.skip))) (.seq (.seq (.region F.compare_Least.r9) (.cond (.tmp 44) (.seq (.region F.compare_Least.r10) (.ret)) (.skip))) (.seq (.seq (.region F.compare_Least.r11) (.block 0 (.loop F.compare_Least.L0))) (.seq (.region F.compare_Least.r23) (.ret)))))))
def F.compare_Least : AFunc := ⟨F.compare_Least.c, [.tmp 6, .tmp 7, .tmp 8]⟩
/-! parlance/compare.words -/
def F.compare_words.r0 : List DOp := [
 Dd 4 (.mv (.const (.int .i64 0)))]
def F.compare_words.r1 : List DOp := [
 Dd 5 (.mv (.const (.int .i64 0))),
 Dd 6 (.mv (.const (.int .i64 1)))]
def F.compare_words.r2 : List DOp := [
 Dd 7 (.mv (.tmp 1)),
 Dd 8 (.bin .add (.tmp 7) (.const (.int .i64 1))),
 Dd 9 (.mv (.const (.int .i64 0)))]
def F.compare_words.r3 : List DOp := [
 Dd 10 (.bin .lss (.tmp 9) (.tmp 8))]
def F.compare_words.r4 : List DOp := [
 Dd 11 (.mv (.tmp 5)),
 Dd 12 (.mv (.tmp 6)),
 Dd 13 (.bin .add (.tmp 11) (.tmp 12)),
 Dd 14 (.mm false [.const (.int .i64 501), .tmp 13]),
 Dd 5 (.mv (.tmp 14))]
def F.compare_words.r5 : List DOp := [
 Dd 15 (.mv (.tmp 6)),
 Dd 16 (.mv (.tmp 0)),
 Dd 17 (.bin .mul (.tmp 15) (.tmp 16)),
 Dd 18 (.mm false [.const (.int .i64 501), .tmp 17]),
 Dd 6 (.mv (.tmp 18))]
def F.compare_words.r6 : List DOp := [
 Dd 19 (.bin .add (.tmp 9) (.const (.int .i64 1))),
 Dd 9 (.mv (.tmp 19))]
def F.compare_words.L0 : ACode := .seq (.region F.compare_words.r3) (.seq (.cond (.tmp 10) (.skip) (.exit 0)) (.seq (.block 1 (.seq (.region F.compare_words.r4) (.region F.compare_words.r5))) (.region F.compare_words.r6)))
def F.compare_words.r7 : List DOp := [
 Dd 20 (.mv (.tmp 5)),
 Dd 4 (.mv (.tmp 20))]
def F.compare_words.c : ACode := .seq (.region F.compare_words.r0) (.seq (.region F.compare_words.r1) (.seq (.seq (.region F.compare_words.r2) (.block 0 (.loop F.compare_words.L0))) (.seq (.region F.compare_words.r7) (.ret))))
def F.compare_words : AFunc := ⟨F.compare_words.c, [.tmp 4]⟩
/-! parlance/compare.next -/
def F.compare_next.r0 : List DOp := [
 Dd 4 (.mv (.const (.bool false)))]
def F.compare_next.r1 : List DOp := [
 Dd 6 (.mv (.tmp 0)),
 Dd 7 (.len (.tmp 6)),
 Dd 8 (.bin .sub (.tmp 7) (.const (.int .i64 1))),
 Dd 5 (.mv (.tmp 8))]
def F.compare_next.r2 : List DOp := [
 Dd 9 (.mv (.tmp 5)),
 Dd 10 (.bin .geq (.tmp 9) (.const (.int .i64 0)))]
def F.compare_next.r4 : List DOp := [
 Dd 13 (.mv (.tmp 0)),
 Dd 14 (.mv (.tmp 5)),
 Dd 15 (.idxs 1 (.tmp 13) (.tmp 14)),
 Dd 16 (.load 1 false (.tmp 15)),
 Dd 17 (.bin .add (.tmp 16) (.const (.int .i64 1))),
 Dd 18 (.mv (.tmp 1)),
 Dd 19 (.bin .lss (.tmp 17) (.tmp 18))]
def F.compare_next.r5 : List DOp := [
 Dd 20 (.mv (.tmp 0)),
 Dd 21 (.mv (.tmp 5)),
 Dd 22 (.idxs 1 (.tmp 20) (.tmp 21)),
 Dd 23 (.load 1 false (.tmp 22)),
 Dd 24 (.bin .add (.tmp 23) (.const (.int .i64 1))),
 Dd 25 (.idxs 1 (.tmp 20) (.tmp 21)),
 De (.store 1 (.tmp 25) (.tmp 24))]
def F.compare_next.r6 : List DOp := [
 Dd 4 (.mv (.const (.bool true)))]
def F.compare_next.r7 : List DOp := [
 Dd 26 (.mv (.tmp 0)),
 Dd 27 (.mv (.tmp 5)),
 Dd 28 (.idxs 1 (.tmp 26) (.tmp 27)),
 De (.store 1 (.tmp 28) (.const (.int .i64 0)))]
def F.compare_next.r3 : List DOp := [
 Dd 11 (.mv (.tmp 5)),
 Dd 12 (.bin .sub (.tmp 11) (.const (.int .i64 1))),
 Dd 5 (.mv (.tmp 12))]
def F.compare_next.L0 : ACode := .seq (.seq (.region F.compare_next.r2) (.cond (.tmp 10) (.skip) (.exit 0))) (.seq (.block 1 (.seq (.seq (.region F.compare_next.r4) (.cond (.tmp 19) (.seq (.region F.compare_next.r5) (.seq (.region F.compare_next.r6) (.ret))) (.skip))) (.region F.compare_next.r7))) (.region F.compare_next.r3))
def F.compare_next.r8 : List DOp := [
 Dd 4 (.mv (.const (.bool false)))]
def F.compare_next.c : ACode := .seq (.region F.compare_next.r0) (.seq (.seq (.region F.compare_next.r1) (.block 0 (.loop F.compare_next.L0))) (.seq (.region F.compare_next.r8) (.ret)))
def F.compare_next : AFunc := ⟨F.compare_next.c, [.tmp 4]⟩
end Go.Proofs.Ythgdobdhdfjhfaa
