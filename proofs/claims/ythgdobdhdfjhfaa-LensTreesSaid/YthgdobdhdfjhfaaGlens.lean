/- The abstract code of package lens, written by wip/tools/gen.py from the translation. -/
import Derived.Test.YthgdobdhdfjhfaaI
namespace Go.Proofs.Ythgdobdhdfjhfaa
open Go Go.Ab
/-! parlance/lens.Set -/
def F.lens_Set.r0 : List DOp := [
  ⟨some 2, .box (.tmp 0), none, []⟩,
  ⟨some 4, .mv (.const (.slice none 0 0)), none, []⟩,
  ⟨some 5, .mv (.const (.int .i64 0)), none, []⟩]
def F.lens_Set.r1 : List DOp := [
  ⟨some 14, .load 4 true (.tmp 2), none, []⟩,
  ⟨some 15, .call I.gram_Check [.tmp 14], none, []⟩,
  ⟨some 6, .mv (.tmp 15), none, []⟩]
def F.lens_Set.r2 : List DOp := [
  ⟨some 16, .mv (.tmp 6), none, []⟩,
  ⟨some 17, .bin .neq (.tmp 16) (.const (.int .i64 0)), none, []⟩]
def F.lens_Set.r3 : List DOp := [
  ⟨some 18, .mv (.tmp 6), none, []⟩,
  ⟨some 4, .mv (.const (.slice none 0 0)), none, []⟩,
  ⟨some 5, .mv (.tmp 18), none, []⟩]
def F.lens_Set.r4 : List DOp := [
  ⟨some 19, .mv (.tmp 1), none, []⟩,
  ⟨some 20, .bin .lss (.tmp 19) (.const (.int .i64 0)), none, []⟩,
  ⟨some 21, .mv (.tmp 20), none, []⟩,
  ⟨some 22, .mv (.tmp 1), (some (21, false)), []⟩,
  ⟨some 23, .bin .gtr (.tmp 22) (.const (.int .i64 200)), (some (21, false)), []⟩,
  ⟨some 24, .pick (.tmp 21) (.const (.bool true)) (.tmp 23), none, []⟩]
def F.lens_Set.r5 : List DOp := [
  ⟨some 4, .mv (.const (.slice none 0 0)), none, []⟩,
  ⟨some 5, .mv (.const (.int .i64 1)), none, []⟩]
def F.lens_Set.r6 : List DOp := [
  ⟨some 25, .faddr 1 (.tmp 2), none, []⟩,
  ⟨some 26, .load 1 false (.tmp 25), none, []⟩,
  ⟨some 27, .mkslice 1 24 [.slice none 0 0] (.tmp 26) (.tmp 26), none, []⟩,
  ⟨some 7, .mv (.tmp 27), none, []⟩]
def F.lens_Set.r7 : List DOp := [
  ⟨some 28, .mv (.tmp 7), none, []⟩,
  ⟨some 29, .len (.tmp 28), none, []⟩,
  ⟨some 30, .mv (.const (.int .i64 0)), none, []⟩]
def F.lens_Set.r8 : List DOp := [
  ⟨some 31, .bin .lss (.tmp 30) (.tmp 29), none, []⟩]
def F.lens_Set.r9 : List DOp := [
  ⟨some 32, .mv (.tmp 30), none, []⟩,
  ⟨some 8, .mv (.tmp 32), none, []⟩]
def F.lens_Set.r10 : List DOp := [
  ⟨some 33, .mv (.tmp 7), none, []⟩,
  ⟨some 34, .mv (.tmp 8), none, []⟩,
  ⟨some 35, .mv (.tmp 1), none, []⟩,
  ⟨some 36, .bin .add (.tmp 35) (.const (.int .i64 1)), none, []⟩,
  ⟨some 37, .mkslice 1 1 [.bool false] (.tmp 36) (.tmp 36), none, []⟩,
  ⟨some 38, .idxs 1 (.tmp 33) (.tmp 34), none, []⟩,
  ⟨none, .store 1 (.tmp 38) (.tmp 37), none, []⟩]
def F.lens_Set.r11 : List DOp := [
  ⟨some 39, .bin .add (.tmp 30) (.const (.int .i64 1)), none, []⟩,
  ⟨some 30, .mv (.tmp 39), none, []⟩]
def F.lens_Set.L0 : ACode := .seq (.region F.lens_Set.r8) (.seq (.cond (.tmp 31) (.skip) (.exit 0)) (.seq (.block 1 (.seq (.region F.lens_Set.r9) (.region F.lens_Set.r10))) (.region F.lens_Set.r11)))
def F.lens_Set.r12 : List DOp := [
  ⟨some 9, .mv (.const (.bool true)), none, []⟩]
def F.lens_Set.r13 : List DOp := [
  ⟨some 40, .mv (.tmp 9), none, []⟩]
def F.lens_Set.r14 : List DOp := [
  ⟨some 9, .mv (.const (.bool false)), none, []⟩]
def F.lens_Set.r15 : List DOp := [
  ⟨some 41, .faddr 3 (.tmp 2), none, []⟩,
  ⟨some 42, .load 1 false (.tmp 41), none, []⟩,
  ⟨some 43, .len (.tmp 42), none, []⟩,
  ⟨some 44, .mv (.const (.int .i64 0)), none, []⟩]
def F.lens_Set.r16 : List DOp := [
  ⟨some 45, .bin .lss (.tmp 44) (.tmp 43), none, []⟩]
def F.lens_Set.r17 : List DOp := [
  ⟨some 46, .idxs 2 (.tmp 42) (.tmp 44), none, []⟩,
  ⟨some 47, .load 2 true (.tmp 46), none, []⟩,
  ⟨some 11, .alloc [.int .i64 0, .slice none 0 0], none, []⟩,
  ⟨none, .store 2 (.tmp 11) (.tmp 47), none, []⟩]
def F.lens_Set.r18 : List DOp := [
  ⟨some 48, .faddr 1 (.tmp 11), none, []⟩,
  ⟨some 49, .load 1 false (.tmp 48), none, []⟩,
  ⟨some 50, .mv (.tmp 7), none, []⟩,
  ⟨some 51, .mv (.tmp 1), none, []⟩,
  ⟨some 52, .call I.lens_sums [.tmp 49, .tmp 50, .tmp 51], none, []⟩,
  ⟨some 53, .len (.tmp 52), none, []⟩,
  ⟨some 54, .mv (.const (.int .i64 0)), none, []⟩]
def F.lens_Set.r19 : List DOp := [
  ⟨some 55, .bin .lss (.tmp 54) (.tmp 53), none, []⟩]
def F.lens_Set.r20 : List DOp := [
  ⟨some 56, .mv (.tmp 54), none, []⟩,
  ⟨some 57, .idxs 1 (.tmp 52) (.tmp 54), none, []⟩,
  ⟨some 58, .load 1 false (.tmp 57), none, []⟩,
  ⟨some 12, .mv (.tmp 56), none, []⟩,
  ⟨some 13, .mv (.tmp 58), none, []⟩]
def F.lens_Set.r21 : List DOp := [
  ⟨some 59, .mv (.tmp 13), none, []⟩,
  ⟨some 60, .mv (.tmp 59), none, []⟩,
  ⟨some 61, .mv (.tmp 7), (some (60, true)), []⟩,
  ⟨some 62, .faddr 0 (.tmp 11), (some (60, true)), []⟩,
  ⟨some 63, .load 1 false (.tmp 62), (some (60, true)), []⟩,
  ⟨some 64, .idxs 1 (.tmp 61) (.tmp 63), (some (60, true)), []⟩,
  ⟨some 65, .load 1 false (.tmp 64), (some (60, true)), []⟩,
  ⟨some 66, .mv (.tmp 12), (some (60, true)), []⟩,
  ⟨some 67, .idxs 1 (.tmp 65) (.tmp 66), (some (60, true)), []⟩,
  ⟨some 68, .load 1 false (.tmp 67), (some (60, true)), []⟩,
  ⟨some 69, .un .not (.tmp 68), (some (60, true)), []⟩,
  ⟨some 70, .pick (.tmp 60) (.tmp 69) (.const (.bool false)), none, []⟩]
def F.lens_Set.r22 : List DOp := [
  ⟨some 71, .mv (.tmp 7), none, []⟩,
  ⟨some 72, .faddr 0 (.tmp 11), none, []⟩,
  ⟨some 73, .load 1 false (.tmp 72), none, []⟩,
  ⟨some 74, .idxs 1 (.tmp 71) (.tmp 73), none, []⟩,
  ⟨some 75, .load 1 false (.tmp 74), none, []⟩,
  ⟨some 76, .mv (.tmp 12), none, []⟩,
  ⟨some 77, .idxs 1 (.tmp 75) (.tmp 76), none, []⟩,
  ⟨none, .store 1 (.tmp 77) (.const (.bool true)), none, []⟩,
  ⟨some 9, .mv (.const (.bool true)), none, []⟩]
def F.lens_Set.r23 : List DOp := [
  ⟨some 78, .bin .add (.tmp 54) (.const (.int .i64 1)), none, []⟩,
  ⟨some 54, .mv (.tmp 78), none, []⟩]
def F.lens_Set.L3 : ACode := .seq (.region F.lens_Set.r19) (.seq (.cond (.tmp 55) (.skip) (.exit 6)) (.seq (.block 7 (.seq (.region F.lens_Set.r20) (.seq (.region F.lens_Set.r21) (.cond (.tmp 70) (.region F.lens_Set.r22) (.skip))))) (.region F.lens_Set.r23)))
def F.lens_Set.r24 : List DOp := [
  ⟨some 79, .bin .add (.tmp 44) (.const (.int .i64 1)), none, []⟩,
  ⟨some 44, .mv (.tmp 79), none, []⟩]
def F.lens_Set.L2 : ACode := .seq (.region F.lens_Set.r16) (.seq (.cond (.tmp 45) (.skip) (.exit 4)) (.seq (.block 5 (.seq (.region F.lens_Set.r17) (.seq (.region F.lens_Set.r18) (.block 6 (.loop F.lens_Set.L3))))) (.region F.lens_Set.r24)))
def F.lens_Set.L1 : ACode := .seq (.seq (.region F.lens_Set.r13) (.cond (.tmp 40) (.skip) (.exit 2))) (.block 3 (.seq (.region F.lens_Set.r14) (.seq (.region F.lens_Set.r15) (.block 4 (.loop F.lens_Set.L2)))))
def F.lens_Set.r25 : List DOp := [
  ⟨some 80, .mv (.tmp 7), none, []⟩,
  ⟨some 81, .faddr 2 (.tmp 2), none, []⟩,
  ⟨some 82, .load 1 false (.tmp 81), none, []⟩,
  ⟨some 83, .idxs 1 (.tmp 80) (.tmp 82), none, []⟩,
  ⟨some 84, .load 1 false (.tmp 83), none, []⟩,
  ⟨some 4, .mv (.tmp 84), none, []⟩,
  ⟨some 5, .mv (.const (.int .i64 0)), none, []⟩]
def F.lens_Set.c : ACode := .seq (.region F.lens_Set.r0) (.seq (.seq (.region F.lens_Set.r1) (.seq (.region F.lens_Set.r2) (.cond (.tmp 17) (.seq (.region F.lens_Set.r3) (.ret)) (.skip)))) (.seq (.seq (.region F.lens_Set.r4) (.cond (.tmp 24) (.seq (.region F.lens_Set.r5) (.ret)) (.skip))) (.seq (.region F.lens_Set.r6) (.seq (.seq (.region F.lens_Set.r7) (.block 0 (.loop F.lens_Set.L0))) (.seq (.seq (.region F.lens_Set.r12) (.block 2 (.loop F.lens_Set.L1))) (.seq (.region F.lens_Set.r25) (.ret)))))))
def F.lens_Set : AFunc := ⟨F.lens_Set.c, [.tmp 4, .tmp 5]⟩
/-! parlance/lens.sums -/
def F.lens_sums.r0 : List DOp := [
  ⟨some 6, .mv (.const (.slice none 0 0)), none, []⟩]
def F.lens_sums.r1 : List DOp := [
  ⟨some 14, .mv (.tmp 2), none, []⟩,
  ⟨some 15, .bin .add (.tmp 14) (.const (.int .i64 1)), none, []⟩,
  ⟨some 16, .mkslice 1 1 [.bool false] (.tmp 15) (.tmp 15), none, []⟩,
  ⟨some 7, .mv (.tmp 16), none, []⟩]
def F.lens_sums.r2 : List DOp := [
  ⟨some 17, .mv (.tmp 7), none, []⟩,
  ⟨some 18, .idxs 1 (.tmp 17) (.const (.int .i64 0)), none, []⟩,
  ⟨none, .store 1 (.tmp 18) (.const (.bool true)), none, []⟩]
def F.lens_sums.r3 : List DOp := [
  ⟨some 19, .mv (.tmp 0), none, []⟩,
  ⟨some 20, .len (.tmp 19), none, []⟩,
  ⟨some 21, .mv (.const (.int .i64 0)), none, []⟩]
def F.lens_sums.r4 : List DOp := [
  ⟨some 22, .bin .lss (.tmp 21) (.tmp 20), none, []⟩]
def F.lens_sums.r5 : List DOp := [
  ⟨some 23, .idxs 2 (.tmp 19) (.tmp 21), none, []⟩,
  ⟨some 24, .load 2 true (.tmp 23), none, []⟩,
  ⟨some 9, .alloc [.bool false, .int .i64 0], none, []⟩,
  ⟨none, .store 2 (.tmp 9) (.tmp 24), none, []⟩]
def F.lens_sums.r6 : List DOp := [
  ⟨some 25, .mv (.tmp 2), none, []⟩,
  ⟨some 26, .bin .add (.tmp 25) (.const (.int .i64 1)), none, []⟩,
  ⟨some 27, .mkslice 1 1 [.bool false] (.tmp 26) (.tmp 26), none, []⟩,
  ⟨some 10, .mv (.tmp 27), none, []⟩]
def F.lens_sums.r7 : List DOp := [
  ⟨some 28, .mv (.tmp 7), none, []⟩,
  ⟨some 29, .len (.tmp 28), none, []⟩,
  ⟨some 30, .mv (.const (.int .i64 0)), none, []⟩]
def F.lens_sums.r8 : List DOp := [
  ⟨some 31, .bin .lss (.tmp 30) (.tmp 29), none, []⟩]
def F.lens_sums.r9 : List DOp := [
  ⟨some 32, .mv (.tmp 30), none, []⟩,
  ⟨some 33, .idxs 1 (.tmp 28) (.tmp 30), none, []⟩,
  ⟨some 34, .load 1 false (.tmp 33), none, []⟩,
  ⟨some 11, .mv (.tmp 32), none, []⟩,
  ⟨some 12, .mv (.tmp 34), none, []⟩]
def F.lens_sums.r10 : List DOp := [
  ⟨some 35, .mv (.tmp 12), none, []⟩,
  ⟨some 36, .un .not (.tmp 35), none, []⟩]
def F.lens_sums.r11 : List DOp := [
  ⟨some 37, .mv (.tmp 2), none, []⟩,
  ⟨some 38, .bin .add (.tmp 37) (.const (.int .i64 1)), none, []⟩,
  ⟨some 39, .mv (.tmp 11), none, []⟩,
  ⟨some 40, .bin .sub (.tmp 38) (.tmp 39), none, []⟩,
  ⟨some 41, .mv (.const (.int .i64 0)), none, []⟩]
def F.lens_sums.r12 : List DOp := [
  ⟨some 42, .bin .lss (.tmp 41) (.tmp 40), none, []⟩]
def F.lens_sums.r13 : List DOp := [
  ⟨some 43, .mv (.tmp 41), none, []⟩,
  ⟨some 13, .mv (.tmp 43), none, []⟩]
def F.lens_sums.r14 : List DOp := [
  ⟨some 44, .mv (.tmp 10), none, []⟩,
  ⟨some 45, .mv (.tmp 11), none, []⟩,
  ⟨some 46, .mv (.tmp 13), none, []⟩,
  ⟨some 47, .bin .add (.tmp 45) (.tmp 46), none, []⟩,
  ⟨some 48, .mv (.tmp 10), none, []⟩,
  ⟨some 49, .mv (.tmp 11), none, []⟩,
  ⟨some 50, .mv (.tmp 13), none, []⟩,
  ⟨some 51, .bin .add (.tmp 49) (.tmp 50), none, []⟩,
  ⟨some 52, .idxs 1 (.tmp 48) (.tmp 51), none, []⟩,
  ⟨some 53, .load 1 false (.tmp 52), none, []⟩,
  ⟨some 54, .mv (.tmp 53), none, []⟩,
  ⟨some 55, .faddr 0 (.tmp 9), (some (54, false)), []⟩,
  ⟨some 56, .load 1 false (.tmp 55), (some (54, false)), []⟩,
  ⟨some 57, .mv (.tmp 56), (some (54, false)), []⟩,
  ⟨some 58, .mv (.tmp 13), (some (57, true)), []⟩,
  ⟨some 59, .bin .eql (.tmp 58) (.const (.int .i64 1)), (some (57, true)), []⟩,
  ⟨some 60, .pick (.tmp 57) (.tmp 59) (.const (.bool false)), (some (54, false)), []⟩,
  ⟨some 61, .pick (.tmp 54) (.const (.bool true)) (.tmp 60), none, []⟩,
  ⟨some 62, .mv (.tmp 61), none, []⟩,
  ⟨some 63, .faddr 0 (.tmp 9), (some (62, false)), []⟩,
  ⟨some 64, .load 1 false (.tmp 63), (some (62, false)), []⟩,
  ⟨some 65, .un .not (.tmp 64), (some (62, false)), []⟩,
  ⟨some 66, .mv (.tmp 65), (some (62, false)), []⟩,
  ⟨some 67, .mv (.tmp 1), (some (66, true)), []⟩,
  ⟨some 68, .faddr 1 (.tmp 9), (some (66, true)), []⟩,
  ⟨some 69, .load 1 false (.tmp 68), (some (66, true)), []⟩,
  ⟨some 70, .idxs 1 (.tmp 67) (.tmp 69), (some (66, true)), []⟩,
  ⟨some 71, .load 1 false (.tmp 70), (some (66, true)), []⟩,
  ⟨some 72, .mv (.tmp 13), (some (66, true)), []⟩,
  ⟨some 73, .idxs 1 (.tmp 71) (.tmp 72), (some (66, true)), []⟩,
  ⟨some 74, .load 1 false (.tmp 73), (some (66, true)), []⟩,
  ⟨some 75, .pick (.tmp 66) (.tmp 74) (.const (.bool false)), (some (62, false)), []⟩,
  ⟨some 76, .pick (.tmp 62) (.const (.bool true)) (.tmp 75), none, []⟩,
  ⟨some 77, .idxs 1 (.tmp 44) (.tmp 47), none, []⟩,
  ⟨none, .store 1 (.tmp 77) (.tmp 76), none, []⟩]
def F.lens_sums.r15 : List DOp := [
  ⟨some 78, .bin .add (.tmp 41) (.const (.int .i64 1)), none, []⟩,
  ⟨some 41, .mv (.tmp 78), none, []⟩]
def F.lens_sums.L2 : ACode := .seq (.region F.lens_sums.r12) (.seq (.cond (.tmp 42) (.skip) (.exit 4)) (.seq (.block 5 (.seq (.region F.lens_sums.r13) (.region F.lens_sums.r14))) (.region F.lens_sums.r15)))
def F.lens_sums.r16 : List DOp := [
  ⟨some 79, .bin .add (.tmp 30) (.const (.int .i64 1)), none, []⟩,
  ⟨some 30, .mv (.tmp 79), none, []⟩]
def F.lens_sums.L1 : ACode := .seq (.region F.lens_sums.r8) (.seq (.cond (.tmp 31) (.skip) (.exit 2)) (.seq (.block 3 (.seq (.region F.lens_sums.r9) (.seq (.seq (.region F.lens_sums.r10) (.cond (.tmp 36) (.exit 3) (.skip))) (.seq (.region F.lens_sums.r11) (.block 4 (.loop F.lens_sums.L2)))))) (.region F.lens_sums.r16)))
def F.lens_sums.r17 : List DOp := [
  ⟨some 80, .mv (.tmp 10), none, []⟩,
  ⟨some 7, .mv (.tmp 80), none, []⟩]
def F.lens_sums.r18 : List DOp := [
  ⟨some 81, .bin .add (.tmp 21) (.const (.int .i64 1)), none, []⟩,
  ⟨some 21, .mv (.tmp 81), none, []⟩]
def F.lens_sums.L0 : ACode := .seq (.region F.lens_sums.r4) (.seq (.cond (.tmp 22) (.skip) (.exit 0)) (.seq (.block 1 (.seq (.region F.lens_sums.r5) (.seq (.region F.lens_sums.r6) (.seq (.seq (.region F.lens_sums.r7) (.block 2 (.loop F.lens_sums.L1))) (.region F.lens_sums.r17))))) (.region F.lens_sums.r18)))
def F.lens_sums.r19 : List DOp := [
  ⟨some 82, .mv (.tmp 7), none, []⟩,
  ⟨some 6, .mv (.tmp 82), none, []⟩]
def F.lens_sums.c : ACode := .seq (.region F.lens_sums.r0) (.seq (.region F.lens_sums.r1) (.seq (.region F.lens_sums.r2) (.seq (.seq (.region F.lens_sums.r3) (.block 0 (.loop F.lens_sums.L0))) (.seq (.region F.lens_sums.r19) (.ret)))))
def F.lens_sums : AFunc := ⟨F.lens_sums.c, [.tmp 6]⟩
end Go.Proofs.Ythgdobdhdfjhfaa
