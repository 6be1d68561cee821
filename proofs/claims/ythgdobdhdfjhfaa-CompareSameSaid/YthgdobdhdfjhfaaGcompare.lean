/- The abstract code of package compare, written by wip/tools/gen.py from the translation. -/
import Derived.Test.YthgdobdhdfjhfaaI
namespace Go.Proofs.Ythgdobdhdfjhfaa
open Go Go.Ab
/-! parlance/compare.Least -/
def F.compare_Least.r0 : List DOp := [
  ⟨some 3, .box (.tmp 0), none, []⟩,
  ⟨some 4, .box (.tmp 1), none, []⟩,
  ⟨some 6, .mv (.const (.slice none 0 0)), none, []⟩,
  ⟨some 7, .mv (.const (.int .i64 0)), none, []⟩,
  ⟨some 8, .mv (.const (.int .i64 0)), none, []⟩]
def F.compare_Least.r1 : List DOp := [
  ⟨some 17, .load 4 true (.tmp 3), none, []⟩,
  ⟨some 18, .call I.gram_Check [.tmp 17], none, []⟩,
  ⟨some 9, .mv (.tmp 18), none, []⟩]
def F.compare_Least.r2 : List DOp := [
  ⟨some 19, .mv (.tmp 9), none, []⟩,
  ⟨some 20, .bin .neq (.tmp 19) (.const (.int .i64 0)), none, []⟩]
def F.compare_Least.r3 : List DOp := [
  ⟨some 21, .mv (.tmp 9), none, []⟩,
  ⟨some 6, .mv (.const (.slice none 0 0)), none, []⟩,
  ⟨some 7, .mv (.const (.int .i64 0)), none, []⟩,
  ⟨some 8, .mv (.tmp 21), none, []⟩]
def F.compare_Least.r4 : List DOp := [
  ⟨some 22, .load 4 true (.tmp 4), none, []⟩,
  ⟨some 23, .call I.gram_Check [.tmp 22], none, []⟩,
  ⟨some 10, .mv (.tmp 23), none, []⟩]
def F.compare_Least.r5 : List DOp := [
  ⟨some 24, .mv (.tmp 10), none, []⟩,
  ⟨some 25, .bin .neq (.tmp 24) (.const (.int .i64 0)), none, []⟩]
def F.compare_Least.r6 : List DOp := [
  ⟨some 26, .mv (.tmp 10), none, []⟩,
  ⟨some 6, .mv (.const (.slice none 0 0)), none, []⟩,
  ⟨some 7, .mv (.const (.int .i64 0)), none, []⟩,
  ⟨some 8, .mv (.tmp 26), none, []⟩]
def F.compare_Least.r7 : List DOp := [
  ⟨some 27, .faddr 0 (.tmp 3), none, []⟩,
  ⟨some 28, .load 1 false (.tmp 27), none, []⟩,
  ⟨some 29, .faddr 0 (.tmp 4), none, []⟩,
  ⟨some 30, .load 1 false (.tmp 29), none, []⟩,
  ⟨some 31, .bin .neq (.tmp 28) (.tmp 30), none, []⟩,
  ⟨some 32, .mv (.tmp 31), none, []⟩,
  ⟨some 33, .mv (.tmp 2), (some (32, false)), []⟩,
  ⟨some 34, .bin .lss (.tmp 33) (.const (.int .i64 0)), (some (32, false)), []⟩,
  ⟨some 35, .pick (.tmp 32) (.const (.bool true)) (.tmp 34), none, []⟩,
  ⟨some 36, .mv (.tmp 35), none, []⟩,
  ⟨some 37, .mv (.tmp 2), (some (36, false)), []⟩,
  ⟨some 38, .bin .gtr (.tmp 37) (.const (.int .i64 12)), (some (36, false)), []⟩,
  ⟨some 39, .pick (.tmp 36) (.const (.bool true)) (.tmp 38), none, []⟩]
def F.compare_Least.r8 : List DOp := [
  ⟨some 6, .mv (.const (.slice none 0 0)), none, []⟩,
  ⟨some 7, .mv (.const (.int .i64 0)), none, []⟩,
  ⟨some 8, .mv (.const (.int .i64 1)), none, []⟩]
def F.compare_Least.r9 : List DOp := [
  ⟨some 40, .faddr 0 (.tmp 3), none, []⟩,
  ⟨some 41, .load 1 false (.tmp 40), none, []⟩,
  ⟨some 42, .mv (.tmp 2), none, []⟩,
  ⟨some 43, .call I.compare_words [.tmp 41, .tmp 42], none, []⟩,
  ⟨some 44, .bin .gtr (.tmp 43) (.const (.int .i64 500)), none, []⟩]
def F.compare_Least.r10 : List DOp := [
  ⟨some 6, .mv (.const (.slice none 0 0)), none, []⟩,
  ⟨some 7, .mv (.const (.int .i64 0)), none, []⟩,
  ⟨some 8, .mv (.const (.int .i64 2)), none, []⟩]
def F.compare_Least.r11 : List DOp := [
  ⟨some 45, .mv (.tmp 2), none, []⟩,
  ⟨some 46, .bin .add (.tmp 45) (.const (.int .i64 1)), none, []⟩,
  ⟨some 47, .mv (.const (.int .i64 0)), none, []⟩]
def F.compare_Least.r12 : List DOp := [
  ⟨some 48, .bin .lss (.tmp 47) (.tmp 46), none, []⟩]
def F.compare_Least.r13 : List DOp := [
  ⟨some 49, .mv (.tmp 47), none, []⟩,
  ⟨some 11, .mv (.tmp 49), none, []⟩]
def F.compare_Least.r14 : List DOp := [
  ⟨some 50, .mv (.tmp 11), none, []⟩,
  ⟨some 51, .mkslice 1 8 [.int .i64 0] (.tmp 50) (.tmp 50), none, []⟩,
  ⟨some 12, .mv (.tmp 51), none, []⟩]
def F.compare_Least.r15 : List DOp := [
  ⟨some 53, .load 4 true (.tmp 3), none, []⟩,
  ⟨some 54, .mv (.tmp 12), none, []⟩,
  ⟨some 55, .call I.mean_Accepts [.tmp 53, .tmp 54], none, []⟩,
  ⟨some 52, .mv (.tmp 55), none, []⟩,
  ⟨some 56, .extract (.tmp 52) 0, none, []⟩,
  ⟨some 57, .extract (.tmp 52) 1, none, []⟩,
  ⟨some 13, .mv (.tmp 56), none, []⟩,
  ⟨some 14, .mv (.tmp 57), none, []⟩]
def F.compare_Least.r16 : List DOp := [
  ⟨some 59, .load 4 true (.tmp 4), none, []⟩,
  ⟨some 60, .mv (.tmp 12), none, []⟩,
  ⟨some 61, .call I.mean_Accepts [.tmp 59, .tmp 60], none, []⟩,
  ⟨some 58, .mv (.tmp 61), none, []⟩,
  ⟨some 62, .extract (.tmp 58) 0, none, []⟩,
  ⟨some 63, .extract (.tmp 58) 1, none, []⟩,
  ⟨some 15, .mv (.tmp 62), none, []⟩,
  ⟨some 16, .mv (.tmp 63), none, []⟩]
def F.compare_Least.r17 : List DOp := [
  ⟨some 65, .mv (.tmp 13), none, []⟩,
  ⟨some 66, .mv (.tmp 65), none, []⟩,
  ⟨some 67, .mv (.tmp 15), (some (66, true)), []⟩,
  ⟨some 68, .un .not (.tmp 67), (some (66, true)), []⟩,
  ⟨some 69, .pick (.tmp 66) (.tmp 68) (.const (.bool false)), none, []⟩,
  ⟨some 64, .mv (.tmp 69), none, []⟩]
def F.compare_Least.r18 : List DOp := [
  ⟨some 70, .mv (.tmp 12), none, []⟩,
  ⟨some 6, .mv (.tmp 70), none, []⟩,
  ⟨some 7, .mv (.const (.int .i64 1)), none, []⟩,
  ⟨some 8, .mv (.const (.int .i64 0)), none, []⟩]
def F.compare_Least.r19 : List DOp := [
  ⟨some 72, .mv (.tmp 15), none, []⟩,
  ⟨some 73, .mv (.tmp 72), none, []⟩,
  ⟨some 74, .mv (.tmp 13), (some (73, true)), []⟩,
  ⟨some 75, .un .not (.tmp 74), (some (73, true)), []⟩,
  ⟨some 76, .pick (.tmp 73) (.tmp 75) (.const (.bool false)), none, []⟩,
  ⟨some 71, .mv (.tmp 76), none, []⟩]
def F.compare_Least.r20 : List DOp := [
  ⟨some 77, .mv (.tmp 12), none, []⟩,
  ⟨some 6, .mv (.tmp 77), none, []⟩,
  ⟨some 7, .mv (.const (.int .i64 2)), none, []⟩,
  ⟨some 8, .mv (.const (.int .i64 0)), none, []⟩]
def F.compare_Least.r21 : List DOp := [
  ⟨some 78, .mv (.tmp 12), none, []⟩,
  ⟨some 79, .faddr 0 (.tmp 3), none, []⟩,
  ⟨some 80, .load 1 false (.tmp 79), none, []⟩,
  ⟨some 81, .call I.compare_next [.tmp 78, .tmp 80], none, []⟩,
  ⟨some 82, .un .not (.tmp 81), none, []⟩]
def F.compare_Least.L1 : ACode := .block 3 (.seq (.region F.compare_Least.r15) (.seq (.region F.compare_Least.r16) (.seq (.block 4 (.seq (.region F.compare_Least.r17) (.cond (.tmp 64) (.seq (.region F.compare_Least.r18) (.ret)) (.seq (.region F.compare_Least.r19) (.cond (.tmp 71) (.seq (.region F.compare_Least.r20) (.ret)) (.skip)))))) (.seq (.region F.compare_Least.r21) (.cond (.tmp 82) (.exit 2) (.skip))))))
def F.compare_Least.r22 : List DOp := [
  ⟨some 83, .bin .add (.tmp 47) (.const (.int .i64 1)), none, []⟩,
  ⟨some 47, .mv (.tmp 83), none, []⟩]
def F.compare_Least.L0 : ACode := .seq (.region F.compare_Least.r12) (.seq (.cond (.tmp 48) (.skip) (.exit 0)) (.seq (.block 1 (.seq (.region F.compare_Least.r13) (.seq (.region F.compare_Least.r14) (.block 2 (.loop F.compare_Least.L1))))) (.region F.compare_Least.r22)))
def F.compare_Least.r23 : List DOp := [
  ⟨some 6, .mv (.const (.slice none 0 0)), none, []⟩,
  ⟨some 7, .mv (.const (.int .i64 0)), none, []⟩,
  ⟨some 8, .mv (.const (.int .i64 5)), none, []⟩]
def F.compare_Least.c : ACode := .seq (.region F.compare_Least.r0) (.seq (.seq (.region F.compare_Least.r1) (.seq (.region F.compare_Least.r2) (.cond (.tmp 20) (.seq (.region F.compare_Least.r3) (.ret)) (.skip)))) (.seq (.seq (.region F.compare_Least.r4) (.seq (.region F.compare_Least.r5) (.cond (.tmp 25) (.seq (.region F.compare_Least.r6) (.ret)) (.skip)))) (.seq (.seq (.region F.compare_Least.r7) (.cond (.tmp 39) (.seq (.region F.compare_Least.r8) (.ret)) (.skip))) (.seq (.seq (.region F.compare_Least.r9) (.cond (.tmp 44) (.seq (.region F.compare_Least.r10) (.ret)) (.skip))) (.seq (.seq (.region F.compare_Least.r11) (.block 0 (.loop F.compare_Least.L0))) (.seq (.region F.compare_Least.r23) (.ret)))))))
def F.compare_Least : AFunc := ⟨F.compare_Least.c, [.tmp 6, .tmp 7, .tmp 8]⟩
/-! parlance/compare.words -/
def F.compare_words.r0 : List DOp := [
  ⟨some 4, .mv (.const (.int .i64 0)), none, []⟩]
def F.compare_words.r1 : List DOp := [
  ⟨some 5, .mv (.const (.int .i64 0)), none, []⟩,
  ⟨some 6, .mv (.const (.int .i64 1)), none, []⟩]
def F.compare_words.r2 : List DOp := [
  ⟨some 7, .mv (.tmp 1), none, []⟩,
  ⟨some 8, .bin .add (.tmp 7) (.const (.int .i64 1)), none, []⟩,
  ⟨some 9, .mv (.const (.int .i64 0)), none, []⟩]
def F.compare_words.r3 : List DOp := [
  ⟨some 10, .bin .lss (.tmp 9) (.tmp 8), none, []⟩]
def F.compare_words.r4 : List DOp := [
  ⟨some 11, .mv (.tmp 5), none, []⟩,
  ⟨some 12, .mv (.tmp 6), none, []⟩,
  ⟨some 13, .bin .add (.tmp 11) (.tmp 12), none, []⟩,
  ⟨some 14, .mm false [.const (.int .i64 501), .tmp 13], none, []⟩,
  ⟨some 5, .mv (.tmp 14), none, []⟩]
def F.compare_words.r5 : List DOp := [
  ⟨some 15, .mv (.tmp 6), none, []⟩,
  ⟨some 16, .mv (.tmp 0), none, []⟩,
  ⟨some 17, .bin .mul (.tmp 15) (.tmp 16), none, []⟩,
  ⟨some 18, .mm false [.const (.int .i64 501), .tmp 17], none, []⟩,
  ⟨some 6, .mv (.tmp 18), none, []⟩]
def F.compare_words.r6 : List DOp := [
  ⟨some 19, .bin .add (.tmp 9) (.const (.int .i64 1)), none, []⟩,
  ⟨some 9, .mv (.tmp 19), none, []⟩]
def F.compare_words.L0 : ACode := .seq (.region F.compare_words.r3) (.seq (.cond (.tmp 10) (.skip) (.exit 0)) (.seq (.block 1 (.seq (.region F.compare_words.r4) (.region F.compare_words.r5))) (.region F.compare_words.r6)))
def F.compare_words.r7 : List DOp := [
  ⟨some 20, .mv (.tmp 5), none, []⟩,
  ⟨some 4, .mv (.tmp 20), none, []⟩]
def F.compare_words.c : ACode := .seq (.region F.compare_words.r0) (.seq (.region F.compare_words.r1) (.seq (.seq (.region F.compare_words.r2) (.block 0 (.loop F.compare_words.L0))) (.seq (.region F.compare_words.r7) (.ret))))
def F.compare_words : AFunc := ⟨F.compare_words.c, [.tmp 4]⟩
/-! parlance/compare.next -/
def F.compare_next.r0 : List DOp := [
  ⟨some 4, .mv (.const (.bool false)), none, []⟩]
def F.compare_next.r1 : List DOp := [
  ⟨some 6, .mv (.tmp 0), none, []⟩,
  ⟨some 7, .len (.tmp 6), none, []⟩,
  ⟨some 8, .bin .sub (.tmp 7) (.const (.int .i64 1)), none, []⟩,
  ⟨some 5, .mv (.tmp 8), none, []⟩]
def F.compare_next.r2 : List DOp := [
  ⟨some 9, .mv (.tmp 5), none, []⟩,
  ⟨some 10, .bin .geq (.tmp 9) (.const (.int .i64 0)), none, []⟩]
def F.compare_next.r4 : List DOp := [
  ⟨some 13, .mv (.tmp 0), none, []⟩,
  ⟨some 14, .mv (.tmp 5), none, []⟩,
  ⟨some 15, .idxs 1 (.tmp 13) (.tmp 14), none, []⟩,
  ⟨some 16, .load 1 false (.tmp 15), none, []⟩,
  ⟨some 17, .bin .add (.tmp 16) (.const (.int .i64 1)), none, []⟩,
  ⟨some 18, .mv (.tmp 1), none, []⟩,
  ⟨some 19, .bin .lss (.tmp 17) (.tmp 18), none, []⟩]
def F.compare_next.r5 : List DOp := [
  ⟨some 20, .mv (.tmp 0), none, []⟩,
  ⟨some 21, .mv (.tmp 5), none, []⟩,
  ⟨some 22, .idxs 1 (.tmp 20) (.tmp 21), none, []⟩,
  ⟨some 23, .load 1 false (.tmp 22), none, []⟩,
  ⟨some 24, .bin .add (.tmp 23) (.const (.int .i64 1)), none, []⟩,
  ⟨some 25, .idxs 1 (.tmp 20) (.tmp 21), none, []⟩,
  ⟨none, .store 1 (.tmp 25) (.tmp 24), none, []⟩]
def F.compare_next.r6 : List DOp := [
  ⟨some 4, .mv (.const (.bool true)), none, []⟩]
def F.compare_next.r7 : List DOp := [
  ⟨some 26, .mv (.tmp 0), none, []⟩,
  ⟨some 27, .mv (.tmp 5), none, []⟩,
  ⟨some 28, .idxs 1 (.tmp 26) (.tmp 27), none, []⟩,
  ⟨none, .store 1 (.tmp 28) (.const (.int .i64 0)), none, []⟩]
def F.compare_next.r3 : List DOp := [
  ⟨some 11, .mv (.tmp 5), none, []⟩,
  ⟨some 12, .bin .sub (.tmp 11) (.const (.int .i64 1)), none, []⟩,
  ⟨some 5, .mv (.tmp 12), none, []⟩]
def F.compare_next.L0 : ACode := .seq (.seq (.region F.compare_next.r2) (.cond (.tmp 10) (.skip) (.exit 0))) (.seq (.block 1 (.seq (.seq (.region F.compare_next.r4) (.cond (.tmp 19) (.seq (.region F.compare_next.r5) (.seq (.region F.compare_next.r6) (.ret))) (.skip))) (.region F.compare_next.r7))) (.region F.compare_next.r3))
def F.compare_next.r8 : List DOp := [
  ⟨some 4, .mv (.const (.bool false)), none, []⟩]
def F.compare_next.c : ACode := .seq (.region F.compare_next.r0) (.seq (.seq (.region F.compare_next.r1) (.block 0 (.loop F.compare_next.L0))) (.seq (.region F.compare_next.r8) (.ret)))
def F.compare_next : AFunc := ⟨F.compare_next.c, [.tmp 4]⟩
end Go.Proofs.Ythgdobdhdfjhfaa
