/- The abstract code of package lens, written by wip/tools/gen.py from the translation. -/
import Derived.Test.YthgdobdhdfjhfaaI
namespace Go.Proofs.Ythgdobdhdfjhfaa
open Go Go.Ab
/-! parlance/lens.Set -/
def F.lens_Set.r0 : List DOp := [
  ⟨some 2, .box (.tmp 0), none, []⟩,
  ⟨some 4, .mv (.const (.slice none 0 0)), none, []⟩,
  ⟨some 5, .mv (.const (.int .i64 0)), none, []⟩]
def F.lens_Set.r1 : List DOp := [
  ⟨some 14, .load 4 true (.tmp 2), none, []⟩,
  ⟨some 15, .call I.gram_Check [.tmp 14], none, []⟩,
  ⟨some 6, .mv (.tmp 15), none, []⟩]
def F.lens_Set.r2 : List DOp := [
  ⟨some 16, .mv (.tmp 6), none, []⟩,
  ⟨some 17, .bin .neq (.tmp 16) (.const (.int .i64 0)), none, []⟩]
def F.lens_Set.r3 : List DOp := [
  ⟨some 18, .mv (.tmp 6), none, []⟩,
  ⟨some 4, .mv (.const (.slice none 0 0)), none, []⟩,
  ⟨some 5, .mv (.tmp 18), none, []⟩]
def F.lens_Set.r4 : List DOp := [
  ⟨some 19, .mv (.tmp 1), none, []⟩,
  ⟨some 20, .bin .lss (.tmp 19) (.const (.int .i64 0)), none, []⟩,
  ⟨some 21, .mv (.tmp 20), none, []⟩,
  ⟨some 22, .mv (.tmp 1), (some (21, false)), []⟩,
  ⟨some 23, .bin .gtr (.tmp 22) (.const (.int .i64 200)), (some (21, false)), []⟩,
  ⟨some 24, .pick (.tmp 21) (.const (.bool true)) (.tmp 23), none, []⟩]
def F.lens_Set.r5 : List DOp := [
  ⟨some 4, .mv (.const (.slice none 0 0)), none, []⟩,
  ⟨some 5, .mv (.const (.int .i64 1)), none, []⟩]
def F.lens_Set.r6 : List DOp := [
  ⟨some 25, .faddr 1 (.tmp 2), none, []⟩,
  ⟨some 26, .load 1 false (.tmp 25), none, []⟩,
  ⟨some 27, .mkslice 1 24 [.slice none 0 0] (.tmp 26) (.tmp 26), none, []⟩,
  ⟨some 7, .mv (.tmp 27), none, []⟩]
def F.lens_Set.r7 : List DOp := [
  ⟨some 28, .mv (.tmp 7), none, []⟩,
  ⟨some 29, .len (.tmp 28), none, []⟩,
  ⟨some 30, .mv (.const (.int .i64 0)), none, []⟩]
def F.lens_Set.r8 : List DOp := [
  ⟨some 31, .bin .lss (.tmp 30) (.tmp 29), none, []⟩]
def F.lens_Set.r9 : List DOp := [
  ⟨some 32, .mv (.tmp 30), none, []⟩,
  ⟨some 8, .mv (.tmp 32), none, []⟩]
def F.lens_Set.r10 : List DOp := [
  ⟨some 33, .mv (.tmp 7), none, []⟩,
  ⟨some 34, .mv (.tmp 8), none, []⟩,
  ⟨some 35, .mv (.tmp 1), none, []⟩,
  ⟨some 36, .bin .add (.tmp 35) (.const (.int .i64 1)), none, []⟩,
  ⟨some 37, .mkslice 1 1 [.bool false] (.tmp 36) (.tmp 36), none, []⟩,
  ⟨some 38, .idxs 1 (.tmp 33) (.tmp 34), none, []⟩,
  ⟨none, .store 1 (.tmp 38) (.tmp 37), none, []⟩]
def F.lens_Set.r11 : List DOp := [
  ⟨some 39, .bin .add (.tmp 30) (.const (.int .i64 1)), none, []⟩,
  ⟨some 30, .mv (.tmp 39), none, []⟩]
def F.lens_Set.L0 : ACode := .seq (.region F.lens_Set.r8) (.seq (.cond (.tmp 31) (.skip) (.exit 0)) (.seq (.block 1 (.seq (.region F.lens_Set.r9) (.region F.lens_Set.r10))) (.region F.lens_Set.r11)))
def F.lens_Set.r12 : List DOp := [
  ⟨some 9, .mv (.const (.bool true)), none, []⟩]
def F.lens_Set.r13 : List DOp := [
  ⟨some 40, .mv (.tmp 9), none, []⟩]
def F.lens_Set.r14 : List DOp := [
  ⟨some 9, .mv (.const (.bool false)), none, []⟩]
def F.lens_Set.r15 : List DOp := [
  ⟨some 41, .faddr 3 (.tmp 2), none, []⟩,
  ⟨some 42, .load 1 false (.tmp 41), none, []⟩,
  ⟨some 43, .len (.tmp 42), none, []⟩,
  ⟨some 44, .mv (.const (.int .i64 0)), none, []⟩]
def F.lens_Set.r16 : List DOp := [
  ⟨some 45, .bin .lss (.tmp 44) (.tmp 43), none, []⟩]
def F.lens_Set.r17 : List DOp := [
  ⟨some 46, .idxs 2 (.tmp 42) (.tmp 44), none, []⟩,
  ⟨some 47, .load 2 true (.tmp 46), none, []⟩,
  ⟨some 11, .alloc [.int .i64 0, .slice none 0 0], none, []⟩,
  ⟨none, .store 2 (.tmp 11) (.tmp 47), none, []⟩]
def F.lens_Set.r18 : List DOp := [
  ⟨some 48, .faddr 1 (.tmp 11), none, []⟩,
  ⟨some 49, .load 1 false (.tmp 48), none, []⟩,
  ⟨some 50, .mv (.tmp 7), none, []⟩,
  ⟨some 51, .mv (.tmp 1), none, []⟩,
  ⟨some 52, .call I.lens_sums [.tmp 49, .tmp 50, .tmp 51], none, []⟩,
  ⟨some 53, .len (.tmp 52), none, []⟩,
  ⟨some 54, .mv (.const (.int .i64 0)), none, []⟩]
def F.lens_Set.r19 : List DOp := [
  ⟨some 55, .bin .lss (.tmp 54) (.tmp 53), none, []⟩]
def F.lens_Set.r20 : List DOp := [
  ⟨some 56, .mv (.tmp 54), none, []⟩,
  ⟨some 57, .idxs 1 (.tmp 52) (.tmp 54), none, []⟩,
  ⟨some 58, .load 1 false (.tmp 57), none, []⟩,
  ⟨some 12, .mv (.tmp 56), none, []⟩,
  ⟨some 13, .mv (.tmp 58), none, []⟩]
def F.lens_Set.r21 : List DOp := [
  ⟨some 59, .mv (.tmp 13), none, []⟩,
  ⟨some 60, .mv (.tmp 59), none, []⟩,
  ⟨some 61, .mv (.tmp 7), (some (60, true)), []⟩,
  ⟨some 62, .faddr 0 (.tmp 11), (some (60, true)), []⟩,
  ⟨some 63, .load 1 false (.tmp 62), (some (60, true)), []⟩,
  ⟨some 64, .idxs 1 (.tmp 61) (.tmp 63), (some (60, true)), []⟩,
  ⟨some 65, .load 1 false (.tmp 64), (some (60, true)), []⟩,
  ⟨some 66, .mv (.tmp 12), (some (60, true)), []⟩,
  ⟨some 67, .idxs 1 (.tmp 65) (.tmp 66), (some (60, true)), []⟩,
  ⟨some 68, .load 1 false (.tmp 67), (some (60, true)), []⟩,
  ⟨some 69, .un .not (.tmp 68), (some (60, true)), []⟩,
  ⟨some 70, .pick (.tmp 60) (.tmp 69) (.const (.bool false)), none, []⟩]
def F.lens_Set.r22 : List DOp := [
  ⟨some 71, .mv (.tmp 7), none, []⟩,
  ⟨some 72, .faddr 0 (.tmp 11), none, []⟩,
  ⟨some 73, .load 1 false (.tmp 72), none, []⟩,
  ⟨some 74, .idxs 1 (.tmp 71) (.tmp 73), none, []⟩,
  ⟨some 75, .load 1 false (.tmp 74), none, []⟩,
  ⟨some 76, .mv (.tmp 12), none, []⟩,
  ⟨some 77, .idxs 1 (.tmp 75) (.tmp 76), none, []⟩,
  ⟨none, .store 1 (.tmp 77) (.const (.bool true)), none, []⟩,
  ⟨some 9, .mv (.const (.bool true)), none, []⟩]
def F.lens_Set.r23 : List DOp := [
  ⟨some 78, .bin .add (.tmp 54) (.const (.int .i64 1)), none, []⟩,
  ⟨some 54, .mv (.tmp 78), none, []⟩]
def F.lens_Set.L3 : ACode := .seq (.region F.lens_Set.r19) (.seq (.cond (.tmp 55) (.skip) (.exit 6)) (.seq (.block 7 (.seq (.region F.lens_Set.r20) (.seq (.region F.lens_Set.r21) (.cond (.tmp 70) (.region F.lens_Set.r22) (.skip))))) (.region F.lens_Set.r23)))
def F.lens_Set.r24 : List DOp := [
  ⟨some 79, .bin .add (.tmp 44) (.const (.int .i64 1)), none, []⟩,
  ⟨some 44, .mv (.tmp 79), none, []⟩]
def F.lens_Set.L2 : ACode := .seq (.region F.lens_Set.r16) (.seq (.cond (.tmp 45) (.skip) (.exit 4)) (.seq (.block 5 (.seq (.region F.lens_Set.r17) (.seq (.region F.lens_Set.r18) (.block 6 (.loop F.lens_Set.L3))))) (.region F.lens_Set.r24)))
def F.lens_Set.L1 : ACode := .seq (.seq (.region F.lens_Set.r13) (.cond (.tmp 40) (.skip) (.exit 2))) (.block 3 (.seq (.region F.lens_Set.r14) (.seq (.region F.lens_Set.r15) (.block 4 (.loop F.lens_Set.L2)))))
def F.lens_Set.r25 : List DOp := [
  ⟨some 80, .mv (.tmp 7), none, []⟩,
  ⟨some 81, .faddr 2 (.tmp 2), none, []⟩,
  ⟨some 82, .load 1 false (.tmp 81), none, []⟩,
  ⟨some 83, .idxs 1 (.tmp 80) (.tmp 82), none, []⟩,
  ⟨some 84, .load 1 false (.tmp 83), none, []⟩,
  ⟨some 4, .mv (.tmp 84), none, []⟩,
  ⟨some 5, .mv (.const (.int .i64 0)), none, []⟩]
def F.lens_Set.c : ACode := .seq (.region F.lens_Set.r0) (.seq (.seq (.region F.lens_Set.r1) (.seq (.region F.lens_Set.r2) (.cond (.tmp 17) (.seq (.region F.lens_Set.r3) (.ret)) (.skip)))) (.seq (.seq (.region F.lens_Set.r4) (.cond (.tmp 24) (.seq (.region F.lens_Set.r5) (.ret)) (.skip))) (.seq (.region F.lens_Set.r6) (.seq (.seq (.region F.lens_Set.r7) (.block 0 (.loop F.lens_Set.L0))) (.seq (.seq (.region F.lens_Set.r12) (.block 2 (.loop F.lens_Set.L1))) (.seq (.region F.lens_Set.r25) (.ret)))))))
def F.lens_Set : AFunc := ⟨F.lens_Set.c, [.tmp 4, .tmp 5]⟩
/-! parlance/lens.Greatest -/
def F.lens_Greatest.r0 : List DOp := [
  ⟨some 1, .box (.tmp 0), none, []⟩,
  ⟨some 2, .mv (.const (.int .i64 0)), none, []⟩,
  ⟨some 3, .mv (.const (.int .i64 0)), none, []⟩]
def F.lens_Greatest.r1 : List DOp := [
  ⟨some 8, .load 4 true (.tmp 1), none, []⟩,
  ⟨some 9, .call I.gram_Check [.tmp 8], none, []⟩,
  ⟨some 4, .mv (.tmp 9), none, []⟩]
def F.lens_Greatest.r2 : List DOp := [
  ⟨some 10, .mv (.tmp 4), none, []⟩,
  ⟨some 11, .bin .neq (.tmp 10) (.const (.int .i64 0)), none, []⟩]
def F.lens_Greatest.r3 : List DOp := [
  ⟨some 12, .mv (.tmp 4), none, []⟩,
  ⟨some 2, .mv (.const (.int .i64 0)), none, []⟩,
  ⟨some 3, .mv (.tmp 12), none, []⟩]
def F.lens_Greatest.r4 : List DOp := [
  ⟨some 13, .faddr 1 (.tmp 1), none, []⟩,
  ⟨some 14, .load 1 false (.tmp 13), none, []⟩,
  ⟨some 15, .mkslice 1 8 [.int .i64 0] (.tmp 14) (.tmp 14), none, []⟩,
  ⟨some 5, .alloc [.slice none 0 0], none, []⟩,
  ⟨none, .store 1 (.tmp 5) (.tmp 15), none, []⟩]
def F.lens_Greatest.r5 : List DOp := [
  ⟨some 16, .load 1 false (.tmp 5), none, []⟩,
  ⟨some 17, .len (.tmp 16), none, []⟩,
  ⟨some 18, .mv (.const (.int .i64 0)), none, []⟩]
def F.lens_Greatest.r6 : List DOp := [
  ⟨some 19, .bin .lss (.tmp 18) (.tmp 17), none, []⟩]
def F.lens_Greatest.r7 : List DOp := [
  ⟨some 20, .mv (.tmp 18), none, []⟩,
  ⟨some 6, .mv (.tmp 20), none, []⟩]
def F.lens_Greatest.r8 : List DOp := [
  ⟨some 21, .load 1 false (.tmp 5), none, []⟩,
  ⟨some 22, .mv (.tmp 6), none, []⟩,
  ⟨some 23, .idxs 1 (.tmp 21) (.tmp 22), none, []⟩,
  ⟨none, .store 1 (.tmp 23) (.const (.int .i64 (-1))), none, []⟩]
def F.lens_Greatest.r9 : List DOp := [
  ⟨some 24, .bin .add (.tmp 18) (.const (.int .i64 1)), none, []⟩,
  ⟨some 18, .mv (.tmp 24), none, []⟩]
def F.lens_Greatest.L0 : ACode := .seq (.region F.lens_Greatest.r6) (.seq (.cond (.tmp 19) (.skip) (.exit 0)) (.seq (.block 1 (.seq (.region F.lens_Greatest.r7) (.region F.lens_Greatest.r8))) (.region F.lens_Greatest.r9)))
def F.lens_Greatest.r10 : List DOp := [
  ⟨some 25, .mkfn (.func I.lens_Greatest_1) [.tmp 1, .tmp 5], none, []⟩,
  ⟨some 7, .mv (.tmp 25), none, []⟩]
def F.lens_Greatest.r11 : List DOp := [
  ⟨some 26, .mv (.tmp 7), none, []⟩,
  ⟨some 27, .callv (.tmp 26) [.const (.int .i64 1)], none, []⟩]
def F.lens_Greatest.L1 : ACode := .seq (.seq (.region F.lens_Greatest.r11) (.cond (.tmp 27) (.skip) (.exit 2))) (.block 3 (.skip))
def F.lens_Greatest.r12 : List DOp := [
  ⟨some 28, .load 4 true (.tmp 1), none, []⟩,
  ⟨some 29, .load 1 false (.tmp 5), none, []⟩,
  ⟨some 30, .call I.lens_endless [.tmp 28, .tmp 29], none, []⟩]
def F.lens_Greatest.r13 : List DOp := [
  ⟨some 2, .mv (.const (.int .i64 (-2))), none, []⟩,
  ⟨some 3, .mv (.const (.int .i64 0)), none, []⟩]
def F.lens_Greatest.r14 : List DOp := [
  ⟨some 31, .faddr 1 (.tmp 1), none, []⟩,
  ⟨some 32, .load 1 false (.tmp 31), none, []⟩,
  ⟨some 33, .bin .add (.tmp 32) (.const (.int .i64 1)), none, []⟩,
  ⟨some 34, .mv (.const (.int .i64 0)), none, []⟩]
def F.lens_Greatest.r15 : List DOp := [
  ⟨some 35, .bin .lss (.tmp 34) (.tmp 33), none, []⟩]
def F.lens_Greatest.r16 : List DOp := [
  ⟨some 36, .mv (.tmp 7), none, []⟩,
  ⟨some 37, .callv (.tmp 36) [.const (.int .i64 1099511627776)], none, []⟩]
def F.lens_Greatest.r17 : List DOp := [
  ⟨some 38, .bin .add (.tmp 34) (.const (.int .i64 1)), none, []⟩,
  ⟨some 34, .mv (.tmp 38), none, []⟩]
def F.lens_Greatest.L2 : ACode := .seq (.region F.lens_Greatest.r15) (.seq (.cond (.tmp 35) (.skip) (.exit 4)) (.seq (.block 5 (.region F.lens_Greatest.r16)) (.region F.lens_Greatest.r17)))
def F.lens_Greatest.r18 : List DOp := [
  ⟨some 39, .load 1 false (.tmp 5), none, []⟩,
  ⟨some 40, .faddr 2 (.tmp 1), none, []⟩,
  ⟨some 41, .load 1 false (.tmp 40), none, []⟩,
  ⟨some 42, .idxs 1 (.tmp 39) (.tmp 41), none, []⟩,
  ⟨some 43, .load 1 false (.tmp 42), none, []⟩,
  ⟨some 2, .mv (.tmp 43), none, []⟩,
  ⟨some 3, .mv (.const (.int .i64 0)), none, []⟩]
def F.lens_Greatest.c : ACode := .seq (.region F.lens_Greatest.r0) (.seq (.seq (.region F.lens_Greatest.r1) (.seq (.region F.lens_Greatest.r2) (.cond (.tmp 11) (.seq (.region F.lens_Greatest.r3) (.ret)) (.skip)))) (.seq (.region F.lens_Greatest.r4) (.seq (.seq (.region F.lens_Greatest.r5) (.block 0 (.loop F.lens_Greatest.L0))) (.seq (.region F.lens_Greatest.r10) (.seq (.block 2 (.loop F.lens_Greatest.L1)) (.seq (.seq (.region F.lens_Greatest.r12) (.cond (.tmp 30) (.seq (.region F.lens_Greatest.r13) (.ret)) (.skip))) (.seq (.seq (.region F.lens_Greatest.r14) (.block 4 (.loop F.lens_Greatest.L2))) (.seq (.region F.lens_Greatest.r18) (.ret)))))))))
def F.lens_Greatest : AFunc := ⟨F.lens_Greatest.c, [.tmp 2, .tmp 3]⟩
/-! parlance/lens.sums -/
def F.lens_sums.r0 : List DOp := [
  ⟨some 6, .mv (.const (.slice none 0 0)), none, []⟩]
def F.lens_sums.r1 : List DOp := [
  ⟨some 14, .mv (.tmp 2), none, []⟩,
  ⟨some 15, .bin .add (.tmp 14) (.const (.int .i64 1)), none, []⟩,
  ⟨some 16, .mkslice 1 1 [.bool false] (.tmp 15) (.tmp 15), none, []⟩,
  ⟨some 7, .mv (.tmp 16), none, []⟩]
def F.lens_sums.r2 : List DOp := [
  ⟨some 17, .mv (.tmp 7), none, []⟩,
  ⟨some 18, .idxs 1 (.tmp 17) (.const (.int .i64 0)), none, []⟩,
  ⟨none, .store 1 (.tmp 18) (.const (.bool true)), none, []⟩]
def F.lens_sums.r3 : List DOp := [
  ⟨some 19, .mv (.tmp 0), none, []⟩,
  ⟨some 20, .len (.tmp 19), none, []⟩,
  ⟨some 21, .mv (.const (.int .i64 0)), none, []⟩]
def F.lens_sums.r4 : List DOp := [
  ⟨some 22, .bin .lss (.tmp 21) (.tmp 20), none, []⟩]
def F.lens_sums.r5 : List DOp := [
  ⟨some 23, .idxs 2 (.tmp 19) (.tmp 21), none, []⟩,
  ⟨some 24, .load 2 true (.tmp 23), none, []⟩,
  ⟨some 9, .alloc [.bool false, .int .i64 0], none, []⟩,
  ⟨none, .store 2 (.tmp 9) (.tmp 24), none, []⟩]
def F.lens_sums.r6 : List DOp := [
  ⟨some 25, .mv (.tmp 2), none, []⟩,
  ⟨some 26, .bin .add (.tmp 25) (.const (.int .i64 1)), none, []⟩,
  ⟨some 27, .mkslice 1 1 [.bool false] (.tmp 26) (.tmp 26), none, []⟩,
  ⟨some 10, .mv (.tmp 27), none, []⟩]
def F.lens_sums.r7 : List DOp := [
  ⟨some 28, .mv (.tmp 7), none, []⟩,
  ⟨some 29, .len (.tmp 28), none, []⟩,
  ⟨some 30, .mv (.const (.int .i64 0)), none, []⟩]
def F.lens_sums.r8 : List DOp := [
  ⟨some 31, .bin .lss (.tmp 30) (.tmp 29), none, []⟩]
def F.lens_sums.r9 : List DOp := [
  ⟨some 32, .mv (.tmp 30), none, []⟩,
  ⟨some 33, .idxs 1 (.tmp 28) (.tmp 30), none, []⟩,
  ⟨some 34, .load 1 false (.tmp 33), none, []⟩,
  ⟨some 11, .mv (.tmp 32), none, []⟩,
  ⟨some 12, .mv (.tmp 34), none, []⟩]
def F.lens_sums.r10 : List DOp := [
  ⟨some 35, .mv (.tmp 12), none, []⟩,
  ⟨some 36, .un .not (.tmp 35), none, []⟩]
def F.lens_sums.r11 : List DOp := [
  ⟨some 37, .mv (.tmp 2), none, []⟩,
  ⟨some 38, .bin .add (.tmp 37) (.const (.int .i64 1)), none, []⟩,
  ⟨some 39, .mv (.tmp 11), none, []⟩,
  ⟨some 40, .bin .sub (.tmp 38) (.tmp 39), none, []⟩,
  ⟨some 41, .mv (.const (.int .i64 0)), none, []⟩]
def F.lens_sums.r12 : List DOp := [
  ⟨some 42, .bin .lss (.tmp 41) (.tmp 40), none, []⟩]
def F.lens_sums.r13 : List DOp := [
  ⟨some 43, .mv (.tmp 41), none, []⟩,
  ⟨some 13, .mv (.tmp 43), none, []⟩]
def F.lens_sums.r14 : List DOp := [
  ⟨some 44, .mv (.tmp 10), none, []⟩,
  ⟨some 45, .mv (.tmp 11), none, []⟩,
  ⟨some 46, .mv (.tmp 13), none, []⟩,
  ⟨some 47, .bin .add (.tmp 45) (.tmp 46), none, []⟩,
  ⟨some 48, .mv (.tmp 10), none, []⟩,
  ⟨some 49, .mv (.tmp 11), none, []⟩,
  ⟨some 50, .mv (.tmp 13), none, []⟩,
  ⟨some 51, .bin .add (.tmp 49) (.tmp 50), none, []⟩,
  ⟨some 52, .idxs 1 (.tmp 48) (.tmp 51), none, []⟩,
  ⟨some 53, .load 1 false (.tmp 52), none, []⟩,
  ⟨some 54, .mv (.tmp 53), none, []⟩,
  ⟨some 55, .faddr 0 (.tmp 9), (some (54, false)), []⟩,
  ⟨some 56, .load 1 false (.tmp 55), (some (54, false)), []⟩,
  ⟨some 57, .mv (.tmp 56), (some (54, false)), []⟩,
  ⟨some 58, .mv (.tmp 13), (some (57, true)), []⟩,
  ⟨some 59, .bin .eql (.tmp 58) (.const (.int .i64 1)), (some (57, true)), []⟩,
  ⟨some 60, .pick (.tmp 57) (.tmp 59) (.const (.bool false)), (some (54, false)), []⟩,
  ⟨some 61, .pick (.tmp 54) (.const (.bool true)) (.tmp 60), none, []⟩,
  ⟨some 62, .mv (.tmp 61), none, []⟩,
  ⟨some 63, .faddr 0 (.tmp 9), (some (62, false)), []⟩,
  ⟨some 64, .load 1 false (.tmp 63), (some (62, false)), []⟩,
  ⟨some 65, .un .not (.tmp 64), (some (62, false)), []⟩,
  ⟨some 66, .mv (.tmp 65), (some (62, false)), []⟩,
  ⟨some 67, .mv (.tmp 1), (some (66, true)), []⟩,
  ⟨some 68, .faddr 1 (.tmp 9), (some (66, true)), []⟩,
  ⟨some 69, .load 1 false (.tmp 68), (some (66, true)), []⟩,
  ⟨some 70, .idxs 1 (.tmp 67) (.tmp 69), (some (66, true)), []⟩,
  ⟨some 71, .load 1 false (.tmp 70), (some (66, true)), []⟩,
  ⟨some 72, .mv (.tmp 13), (some (66, true)), []⟩,
  ⟨some 73, .idxs 1 (.tmp 71) (.tmp 72), (some (66, true)), []⟩,
  ⟨some 74, .load 1 false (.tmp 73), (some (66, true)), []⟩,
  ⟨some 75, .pick (.tmp 66) (.tmp 74) (.const (.bool false)), (some (62, false)), []⟩,
  ⟨some 76, .pick (.tmp 62) (.const (.bool true)) (.tmp 75), none, []⟩,
  ⟨some 77, .idxs 1 (.tmp 44) (.tmp 47), none, []⟩,
  ⟨none, .store 1 (.tmp 77) (.tmp 76), none, []⟩]
def F.lens_sums.r15 : List DOp := [
  ⟨some 78, .bin .add (.tmp 41) (.const (.int .i64 1)), none, []⟩,
  ⟨some 41, .mv (.tmp 78), none, []⟩]
def F.lens_sums.L2 : ACode := .seq (.region F.lens_sums.r12) (.seq (.cond (.tmp 42) (.skip) (.exit 4)) (.seq (.block 5 (.seq (.region F.lens_sums.r13) (.region F.lens_sums.r14))) (.region F.lens_sums.r15)))
def F.lens_sums.r16 : List DOp := [
  ⟨some 79, .bin .add (.tmp 30) (.const (.int .i64 1)), none, []⟩,
  ⟨some 30, .mv (.tmp 79), none, []⟩]
def F.lens_sums.L1 : ACode := .seq (.region F.lens_sums.r8) (.seq (.cond (.tmp 31) (.skip) (.exit 2)) (.seq (.block 3 (.seq (.region F.lens_sums.r9) (.seq (.seq (.region F.lens_sums.r10) (.cond (.tmp 36) (.exit 3) (.skip))) (.seq (.region F.lens_sums.r11) (.block 4 (.loop F.lens_sums.L2)))))) (.region F.lens_sums.r16)))
def F.lens_sums.r17 : List DOp := [
  ⟨some 80, .mv (.tmp 10), none, []⟩,
  ⟨some 7, .mv (.tmp 80), none, []⟩]
def F.lens_sums.r18 : List DOp := [
  ⟨some 81, .bin .add (.tmp 21) (.const (.int .i64 1)), none, []⟩,
  ⟨some 21, .mv (.tmp 81), none, []⟩]
def F.lens_sums.L0 : ACode := .seq (.region F.lens_sums.r4) (.seq (.cond (.tmp 22) (.skip) (.exit 0)) (.seq (.block 1 (.seq (.region F.lens_sums.r5) (.seq (.region F.lens_sums.r6) (.seq (.seq (.region F.lens_sums.r7) (.block 2 (.loop F.lens_sums.L1))) (.region F.lens_sums.r17))))) (.region F.lens_sums.r18)))
def F.lens_sums.r19 : List DOp := [
  ⟨some 82, .mv (.tmp 7), none, []⟩,
  ⟨some 6, .mv (.tmp 82), none, []⟩]
def F.lens_sums.c : ACode := .seq (.region F.lens_sums.r0) (.seq (.region F.lens_sums.r1) (.seq (.region F.lens_sums.r2) (.seq (.seq (.region F.lens_sums.r3) (.block 0 (.loop F.lens_sums.L0))) (.seq (.region F.lens_sums.r19) (.ret)))))
def F.lens_sums : AFunc := ⟨F.lens_sums.c, [.tmp 6]⟩
/-! parlance/lens.Greatest$1 -/
def F.lens_Greatest_1.r0 : List DOp := [
  ⟨some 4, .mv (.const (.bool false)), none, []⟩]
def F.lens_Greatest_1.r1 : List DOp := [
  ⟨some 5, .mv (.const (.bool false)), none, []⟩]
def F.lens_Greatest_1.r2 : List DOp := [
  ⟨some 9, .faddr 3 (.tmp 1), none, []⟩,
  ⟨some 10, .load 1 false (.tmp 9), none, []⟩,
  ⟨some 11, .len (.tmp 10), none, []⟩,
  ⟨some 12, .mv (.const (.int .i64 0)), none, []⟩]
def F.lens_Greatest_1.r3 : List DOp := [
  ⟨some 13, .bin .lss (.tmp 12) (.tmp 11), none, []⟩]
def F.lens_Greatest_1.r4 : List DOp := [
  ⟨some 14, .idxs 2 (.tmp 10) (.tmp 12), none, []⟩,
  ⟨some 15, .load 2 true (.tmp 14), none, []⟩,
  ⟨some 7, .alloc [.int .i64 0, .slice none 0 0], none, []⟩,
  ⟨none, .store 2 (.tmp 7) (.tmp 15), none, []⟩]
def F.lens_Greatest_1.r5 : List DOp := [
  ⟨some 16, .faddr 1 (.tmp 7), none, []⟩,
  ⟨some 17, .load 1 false (.tmp 16), none, []⟩,
  ⟨some 18, .load 1 false (.tmp 2), none, []⟩,
  ⟨some 19, .call I.lens_total [.tmp 17, .tmp 18], none, []⟩,
  ⟨some 8, .mv (.tmp 19), none, []⟩]
def F.lens_Greatest_1.r6 : List DOp := [
  ⟨some 20, .mv (.tmp 8), none, []⟩,
  ⟨some 21, .bin .geq (.tmp 20) (.const (.int .i64 0)), none, []⟩,
  ⟨some 22, .mv (.tmp 21), none, []⟩,
  ⟨some 23, .mv (.tmp 8), (some (22, true)), []⟩,
  ⟨some 24, .mv (.tmp 0), (some (22, true)), []⟩,
  ⟨some 25, .mm false [.tmp 23, .tmp 24], (some (22, true)), []⟩,
  ⟨some 26, .load 1 false (.tmp 2), (some (22, true)), []⟩,
  ⟨some 27, .faddr 0 (.tmp 7), (some (22, true)), []⟩,
  ⟨some 28, .load 1 false (.tmp 27), (some (22, true)), []⟩,
  ⟨some 29, .idxs 1 (.tmp 26) (.tmp 28), (some (22, true)), []⟩,
  ⟨some 30, .load 1 false (.tmp 29), (some (22, true)), []⟩,
  ⟨some 31, .bin .gtr (.tmp 25) (.tmp 30), (some (22, true)), []⟩,
  ⟨some 32, .pick (.tmp 22) (.tmp 31) (.const (.bool false)), none, []⟩]
def F.lens_Greatest_1.r7 : List DOp := [
  ⟨some 33, .load 1 false (.tmp 2), none, []⟩,
  ⟨some 34, .faddr 0 (.tmp 7), none, []⟩,
  ⟨some 35, .load 1 false (.tmp 34), none, []⟩,
  ⟨some 36, .mv (.tmp 8), none, []⟩,
  ⟨some 37, .mv (.tmp 0), none, []⟩,
  ⟨some 38, .mm false [.tmp 36, .tmp 37], none, []⟩,
  ⟨some 39, .idxs 1 (.tmp 33) (.tmp 35), none, []⟩,
  ⟨none, .store 1 (.tmp 39) (.tmp 38), none, []⟩,
  ⟨some 5, .mv (.const (.bool true)), none, []⟩]
def F.lens_Greatest_1.r8 : List DOp := [
  ⟨some 40, .bin .add (.tmp 12) (.const (.int .i64 1)), none, []⟩,
  ⟨some 12, .mv (.tmp 40), none, []⟩]
def F.lens_Greatest_1.L0 : ACode := .seq (.region F.lens_Greatest_1.r3) (.seq (.cond (.tmp 13) (.skip) (.exit 0)) (.seq (.block 1 (.seq (.region F.lens_Greatest_1.r4) (.seq (.region F.lens_Greatest_1.r5) (.seq (.region F.lens_Greatest_1.r6) (.cond (.tmp 32) (.region F.lens_Greatest_1.r7) (.skip)))))) (.region F.lens_Greatest_1.r8)))
def F.lens_Greatest_1.r9 : List DOp := [
  ⟨some 41, .mv (.tmp 5), none, []⟩,
  ⟨some 4, .mv (.tmp 41), none, []⟩]
def F.lens_Greatest_1.c : ACode := .seq (.region F.lens_Greatest_1.r0) (.seq (.region F.lens_Greatest_1.r1) (.seq (.seq (.region F.lens_Greatest_1.r2) (.block 0 (.loop F.lens_Greatest_1.L0))) (.seq (.region F.lens_Greatest_1.r9) (.ret))))
def F.lens_Greatest_1 : AFunc := ⟨F.lens_Greatest_1.c, [.tmp 4]⟩
/-! parlance/lens.total -/
def F.lens_total.r0 : List DOp := [
  ⟨some 4, .mv (.const (.int .i64 0)), none, []⟩]
def F.lens_total.r1 : List DOp := [
  ⟨some 5, .mv (.const (.int .i64 0)), none, []⟩]
def F.lens_total.r2 : List DOp := [
  ⟨some 8, .mv (.tmp 0), none, []⟩,
  ⟨some 9, .len (.tmp 8), none, []⟩,
  ⟨some 10, .mv (.const (.int .i64 0)), none, []⟩]
def F.lens_total.r3 : List DOp := [
  ⟨some 11, .bin .lss (.tmp 10) (.tmp 9), none, []⟩]
def F.lens_total.r4 : List DOp := [
  ⟨some 12, .idxs 2 (.tmp 8) (.tmp 10), none, []⟩,
  ⟨some 13, .load 2 true (.tmp 12), none, []⟩,
  ⟨some 7, .alloc [.bool false, .int .i64 0], none, []⟩,
  ⟨none, .store 2 (.tmp 7) (.tmp 13), none, []⟩]
def F.lens_total.r6 : List DOp := [
  ⟨some 22, .faddr 0 (.tmp 7), none, []⟩,
  ⟨some 23, .load 1 false (.tmp 22), none, []⟩,
  ⟨some 21, .mv (.tmp 23), none, []⟩]
def F.lens_total.r7 : List DOp := [
  ⟨some 24, .mv (.tmp 5), none, []⟩,
  ⟨some 25, .bin .add (.tmp 24) (.const (.int .i64 1)), none, []⟩,
  ⟨some 5, .mv (.tmp 25), none, []⟩]
def F.lens_total.r8 : List DOp := [
  ⟨some 27, .mv (.tmp 1), none, []⟩,
  ⟨some 28, .faddr 1 (.tmp 7), none, []⟩,
  ⟨some 29, .load 1 false (.tmp 28), none, []⟩,
  ⟨some 30, .idxs 1 (.tmp 27) (.tmp 29), none, []⟩,
  ⟨some 31, .load 1 false (.tmp 30), none, []⟩,
  ⟨some 32, .bin .lss (.tmp 31) (.const (.int .i64 0)), none, []⟩,
  ⟨some 26, .mv (.tmp 32), none, []⟩]
def F.lens_total.r9 : List DOp := [
  ⟨some 4, .mv (.const (.int .i64 (-1))), none, []⟩]
def F.lens_total.r5 : List DOp := [
  ⟨some 14, .mv (.tmp 5), none, []⟩,
  ⟨some 15, .mv (.tmp 1), none, []⟩,
  ⟨some 16, .faddr 1 (.tmp 7), none, []⟩,
  ⟨some 17, .load 1 false (.tmp 16), none, []⟩,
  ⟨some 18, .idxs 1 (.tmp 15) (.tmp 17), none, []⟩,
  ⟨some 19, .load 1 false (.tmp 18), none, []⟩,
  ⟨some 20, .bin .add (.tmp 14) (.tmp 19), none, []⟩,
  ⟨some 5, .mv (.tmp 20), none, []⟩]
def F.lens_total.r10 : List DOp := [
  ⟨some 33, .bin .add (.tmp 10) (.const (.int .i64 1)), none, []⟩,
  ⟨some 10, .mv (.tmp 33), none, []⟩]
def F.lens_total.L0 : ACode := .seq (.region F.lens_total.r3) (.seq (.cond (.tmp 11) (.skip) (.exit 0)) (.seq (.block 1 (.seq (.region F.lens_total.r4) (.block 2 (.seq (.region F.lens_total.r6) (.cond (.tmp 21) (.region F.lens_total.r7) (.seq (.region F.lens_total.r8) (.cond (.tmp 26) (.seq (.region F.lens_total.r9) (.ret)) (.region F.lens_total.r5)))))))) (.region F.lens_total.r10)))
def F.lens_total.r11 : List DOp := [
  ⟨some 34, .mv (.tmp 5), none, []⟩,
  ⟨some 4, .mv (.tmp 34), none, []⟩]
def F.lens_total.c : ACode := .seq (.region F.lens_total.r0) (.seq (.region F.lens_total.r1) (.seq (.seq (.region F.lens_total.r2) (.block 0 (.loop F.lens_total.L0))) (.seq (.region F.lens_total.r11) (.ret))))
def F.lens_total : AFunc := ⟨F.lens_total.c, [.tmp 4]⟩
/-! parlance/lens.endless -/
def F.lens_endless.r0 : List DOp := [
  ⟨some 2, .box (.tmp 0), none, []⟩,
  ⟨some 4, .mv (.const (.bool false)), none, []⟩]
def F.lens_endless.r1 : List DOp := [
  ⟨some 18, .faddr 1 (.tmp 2), none, []⟩,
  ⟨some 19, .load 1 false (.tmp 18), none, []⟩,
  ⟨some 20, .call I.lens_square [.tmp 19], none, []⟩,
  ⟨some 21, .faddr 1 (.tmp 2), none, []⟩,
  ⟨some 22, .load 1 false (.tmp 21), none, []⟩,
  ⟨some 23, .call I.lens_square [.tmp 22], none, []⟩,
  ⟨some 5, .mv (.tmp 20), none, []⟩,
  ⟨some 6, .mv (.tmp 23), none, []⟩]
def F.lens_endless.r2 : List DOp := [
  ⟨some 24, .faddr 3 (.tmp 2), none, []⟩,
  ⟨some 25, .load 1 false (.tmp 24), none, []⟩,
  ⟨some 26, .len (.tmp 25), none, []⟩,
  ⟨some 27, .mv (.const (.int .i64 0)), none, []⟩]
def F.lens_endless.r3 : List DOp := [
  ⟨some 28, .bin .lss (.tmp 27) (.tmp 26), none, []⟩]
def F.lens_endless.r4 : List DOp := [
  ⟨some 29, .idxs 2 (.tmp 25) (.tmp 27), none, []⟩,
  ⟨some 30, .load 2 true (.tmp 29), none, []⟩,
  ⟨some 8, .alloc [.int .i64 0, .slice none 0 0], none, []⟩,
  ⟨none, .store 2 (.tmp 8) (.tmp 30), none, []⟩]
def F.lens_endless.r5 : List DOp := [
  ⟨some 31, .faddr 1 (.tmp 8), none, []⟩,
  ⟨some 32, .load 1 false (.tmp 31), none, []⟩,
  ⟨some 33, .mv (.tmp 1), none, []⟩,
  ⟨some 34, .call I.lens_total [.tmp 32, .tmp 33], none, []⟩,
  ⟨some 35, .bin .lss (.tmp 34) (.const (.int .i64 0)), none, []⟩]
def F.lens_endless.r6 : List DOp := [
  ⟨some 36, .faddr 1 (.tmp 8), none, []⟩,
  ⟨some 37, .load 1 false (.tmp 36), none, []⟩,
  ⟨some 38, .len (.tmp 37), none, []⟩,
  ⟨some 39, .mv (.const (.int .i64 0)), none, []⟩]
def F.lens_endless.r7 : List DOp := [
  ⟨some 40, .bin .lss (.tmp 39) (.tmp 38), none, []⟩]
def F.lens_endless.r8 : List DOp := [
  ⟨some 41, .mv (.tmp 39), none, []⟩,
  ⟨some 42, .idxs 2 (.tmp 37) (.tmp 39), none, []⟩,
  ⟨some 43, .load 2 true (.tmp 42), none, []⟩,
  ⟨some 10, .alloc [.bool false, .int .i64 0], none, []⟩,
  ⟨some 9, .mv (.tmp 41), none, []⟩,
  ⟨none, .store 2 (.tmp 10) (.tmp 43), none, []⟩]
def F.lens_endless.r9 : List DOp := [
  ⟨some 44, .faddr 0 (.tmp 10), none, []⟩,
  ⟨some 45, .load 1 false (.tmp 44), none, []⟩]
def F.lens_endless.r10 : List DOp := [
  ⟨some 46, .mv (.tmp 5), none, []⟩,
  ⟨some 47, .faddr 0 (.tmp 8), none, []⟩,
  ⟨some 48, .load 1 false (.tmp 47), none, []⟩,
  ⟨some 49, .idxs 1 (.tmp 46) (.tmp 48), none, []⟩,
  ⟨some 50, .load 1 false (.tmp 49), none, []⟩,
  ⟨some 51, .faddr 1 (.tmp 10), none, []⟩,
  ⟨some 52, .load 1 false (.tmp 51), none, []⟩,
  ⟨some 53, .idxs 1 (.tmp 50) (.tmp 52), none, []⟩,
  ⟨none, .store 1 (.tmp 53) (.const (.bool true)), none, []⟩]
def F.lens_endless.r11 : List DOp := [
  ⟨some 54, .faddr 1 (.tmp 8), none, []⟩,
  ⟨some 55, .load 1 false (.tmp 54), none, []⟩,
  ⟨some 56, .len (.tmp 55), none, []⟩,
  ⟨some 57, .mv (.const (.int .i64 0)), none, []⟩]
def F.lens_endless.r12 : List DOp := [
  ⟨some 58, .bin .lss (.tmp 57) (.tmp 56), none, []⟩]
def F.lens_endless.r13 : List DOp := [
  ⟨some 59, .mv (.tmp 57), none, []⟩,
  ⟨some 60, .idxs 2 (.tmp 55) (.tmp 57), none, []⟩,
  ⟨some 61, .load 2 true (.tmp 60), none, []⟩,
  ⟨some 12, .alloc [.bool false, .int .i64 0], none, []⟩,
  ⟨some 11, .mv (.tmp 59), none, []⟩,
  ⟨none, .store 2 (.tmp 12) (.tmp 61), none, []⟩]
def F.lens_endless.r14 : List DOp := [
  ⟨some 62, .mv (.tmp 6), none, []⟩,
  ⟨some 63, .faddr 0 (.tmp 8), none, []⟩,
  ⟨some 64, .load 1 false (.tmp 63), none, []⟩,
  ⟨some 65, .idxs 1 (.tmp 62) (.tmp 64), none, []⟩,
  ⟨some 66, .load 1 false (.tmp 65), none, []⟩,
  ⟨some 67, .faddr 1 (.tmp 10), none, []⟩,
  ⟨some 68, .load 1 false (.tmp 67), none, []⟩,
  ⟨some 69, .mv (.tmp 6), none, []⟩,
  ⟨some 70, .faddr 0 (.tmp 8), none, []⟩,
  ⟨some 71, .load 1 false (.tmp 70), none, []⟩,
  ⟨some 72, .idxs 1 (.tmp 69) (.tmp 71), none, []⟩,
  ⟨some 73, .load 1 false (.tmp 72), none, []⟩,
  ⟨some 74, .faddr 1 (.tmp 10), none, []⟩,
  ⟨some 75, .load 1 false (.tmp 74), none, []⟩,
  ⟨some 76, .idxs 1 (.tmp 73) (.tmp 75), none, []⟩,
  ⟨some 77, .load 1 false (.tmp 76), none, []⟩,
  ⟨some 78, .mv (.tmp 77), none, []⟩,
  ⟨some 79, .mv (.tmp 11), (some (78, false)), []⟩,
  ⟨some 80, .mv (.tmp 9), (some (78, false)), []⟩,
  ⟨some 81, .bin .neq (.tmp 79) (.tmp 80), (some (78, false)), []⟩,
  ⟨some 82, .mv (.tmp 81), (some (78, false)), []⟩,
  ⟨some 83, .faddr 0 (.tmp 12), (some (82, true)), []⟩,
  ⟨some 84, .load 1 false (.tmp 83), (some (82, true)), []⟩,
  ⟨some 85, .mv (.tmp 84), (some (82, true)), []⟩,
  ⟨some 86, .mv (.tmp 1), (some (85, false)), []⟩,
  ⟨some 87, .faddr 1 (.tmp 12), (some (85, false)), []⟩,
  ⟨some 88, .load 1 false (.tmp 87), (some (85, false)), []⟩,
  ⟨some 89, .idxs 1 (.tmp 86) (.tmp 88), (some (85, false)), []⟩,
  ⟨some 90, .load 1 false (.tmp 89), (some (85, false)), []⟩,
  ⟨some 91, .bin .gtr (.tmp 90) (.const (.int .i64 0)), (some (85, false)), []⟩,
  ⟨some 92, .pick (.tmp 85) (.const (.bool true)) (.tmp 91), (some (82, true)), []⟩,
  ⟨some 93, .pick (.tmp 82) (.tmp 92) (.const (.bool false)), (some (78, false)), []⟩,
  ⟨some 94, .pick (.tmp 78) (.const (.bool true)) (.tmp 93), none, []⟩,
  ⟨some 95, .idxs 1 (.tmp 66) (.tmp 68), none, []⟩,
  ⟨none, .store 1 (.tmp 95) (.tmp 94), none, []⟩]
def F.lens_endless.r15 : List DOp := [
  ⟨some 96, .bin .add (.tmp 57) (.const (.int .i64 1)), none, []⟩,
  ⟨some 57, .mv (.tmp 96), none, []⟩]
def F.lens_endless.L2 : ACode := .seq (.region F.lens_endless.r12) (.seq (.cond (.tmp 58) (.skip) (.exit 4)) (.seq (.block 5 (.seq (.region F.lens_endless.r13) (.draw F.lens_endless.r14 []))) (.region F.lens_endless.r15)))
def F.lens_endless.r16 : List DOp := [
  ⟨some 97, .bin .add (.tmp 39) (.const (.int .i64 1)), none, []⟩,
  ⟨some 39, .mv (.tmp 97), none, []⟩]
def F.lens_endless.L1 : ACode := .seq (.region F.lens_endless.r7) (.seq (.cond (.tmp 40) (.skip) (.exit 2)) (.seq (.block 3 (.seq (.region F.lens_endless.r8) (.seq (.seq (.region F.lens_endless.r9) (.cond (.tmp 45) (.exit 3) (.skip))) (.seq (.draw F.lens_endless.r10 []) (.seq (.region F.lens_endless.r11) (.block 4 (.loop F.lens_endless.L2))))))) (.region F.lens_endless.r16)))
def F.lens_endless.r17 : List DOp := [
  ⟨some 98, .bin .add (.tmp 27) (.const (.int .i64 1)), none, []⟩,
  ⟨some 27, .mv (.tmp 98), none, []⟩]
def F.lens_endless.L0 : ACode := .seq (.region F.lens_endless.r3) (.seq (.cond (.tmp 28) (.skip) (.exit 0)) (.seq (.block 1 (.seq (.region F.lens_endless.r4) (.seq (.seq (.region F.lens_endless.r5) (.cond (.tmp 35) (.exit 1) (.skip))) (.seq (.region F.lens_endless.r6) (.block 2 (.loop F.lens_endless.L1)))))) (.region F.lens_endless.r17)))
def F.lens_endless.r18 : List DOp := [
  ⟨some 99, .mv (.tmp 5), none, []⟩,
  ⟨some 100, .len (.tmp 99), none, []⟩,
  ⟨some 101, .mv (.const (.int .i64 0)), none, []⟩]
def F.lens_endless.r19 : List DOp := [
  ⟨some 102, .bin .lss (.tmp 101) (.tmp 100), none, []⟩]
def F.lens_endless.r20 : List DOp := [
  ⟨some 103, .mv (.tmp 101), none, []⟩,
  ⟨some 13, .mv (.tmp 103), none, []⟩]
def F.lens_endless.r21 : List DOp := [
  ⟨some 104, .mv (.tmp 5), none, []⟩,
  ⟨some 105, .len (.tmp 104), none, []⟩,
  ⟨some 106, .mv (.const (.int .i64 0)), none, []⟩]
def F.lens_endless.r22 : List DOp := [
  ⟨some 107, .bin .lss (.tmp 106) (.tmp 105), none, []⟩]
def F.lens_endless.r23 : List DOp := [
  ⟨some 108, .mv (.tmp 106), none, []⟩,
  ⟨some 14, .mv (.tmp 108), none, []⟩]
def F.lens_endless.r24 : List DOp := [
  ⟨some 109, .mv (.tmp 5), none, []⟩,
  ⟨some 110, .len (.tmp 109), none, []⟩,
  ⟨some 111, .mv (.const (.int .i64 0)), none, []⟩]
def F.lens_endless.r25 : List DOp := [
  ⟨some 112, .bin .lss (.tmp 111) (.tmp 110), none, []⟩]
def F.lens_endless.r26 : List DOp := [
  ⟨some 113, .mv (.tmp 111), none, []⟩,
  ⟨some 15, .mv (.tmp 113), none, []⟩]
def F.lens_endless.r27 : List DOp := [
  ⟨some 114, .mv (.tmp 5), none, []⟩,
  ⟨some 115, .mv (.tmp 14), none, []⟩,
  ⟨some 116, .idxs 1 (.tmp 114) (.tmp 115), none, []⟩,
  ⟨some 117, .load 1 false (.tmp 116), none, []⟩,
  ⟨some 118, .mv (.tmp 15), none, []⟩,
  ⟨some 119, .mv (.tmp 5), none, []⟩,
  ⟨some 120, .mv (.tmp 14), none, []⟩,
  ⟨some 121, .idxs 1 (.tmp 119) (.tmp 120), none, []⟩,
  ⟨some 122, .load 1 false (.tmp 121), none, []⟩,
  ⟨some 123, .mv (.tmp 15), none, []⟩,
  ⟨some 124, .idxs 1 (.tmp 122) (.tmp 123), none, []⟩,
  ⟨some 125, .load 1 false (.tmp 124), none, []⟩,
  ⟨some 126, .mv (.tmp 125), none, []⟩,
  ⟨some 127, .mv (.tmp 5), (some (126, false)), []⟩,
  ⟨some 128, .mv (.tmp 14), (some (126, false)), []⟩,
  ⟨some 129, .idxs 1 (.tmp 127) (.tmp 128), (some (126, false)), []⟩,
  ⟨some 130, .load 1 false (.tmp 129), (some (126, false)), []⟩,
  ⟨some 131, .mv (.tmp 13), (some (126, false)), []⟩,
  ⟨some 132, .idxs 1 (.tmp 130) (.tmp 131), (some (126, false)), []⟩,
  ⟨some 133, .load 1 false (.tmp 132), (some (126, false)), []⟩,
  ⟨some 134, .mv (.tmp 133), (some (126, false)), []⟩,
  ⟨some 135, .mv (.tmp 5), (some (134, true)), []⟩,
  ⟨some 136, .mv (.tmp 13), (some (134, true)), []⟩,
  ⟨some 137, .idxs 1 (.tmp 135) (.tmp 136), (some (134, true)), []⟩,
  ⟨some 138, .load 1 false (.tmp 137), (some (134, true)), []⟩,
  ⟨some 139, .mv (.tmp 15), (some (134, true)), []⟩,
  ⟨some 140, .idxs 1 (.tmp 138) (.tmp 139), (some (134, true)), []⟩,
  ⟨some 141, .load 1 false (.tmp 140), (some (134, true)), []⟩,
  ⟨some 142, .pick (.tmp 134) (.tmp 141) (.const (.bool false)), (some (126, false)), []⟩,
  ⟨some 143, .pick (.tmp 126) (.const (.bool true)) (.tmp 142), none, []⟩,
  ⟨some 144, .idxs 1 (.tmp 117) (.tmp 118), none, []⟩,
  ⟨none, .store 1 (.tmp 144) (.tmp 143), none, []⟩]
def F.lens_endless.r28 : List DOp := [
  ⟨some 145, .bin .add (.tmp 111) (.const (.int .i64 1)), none, []⟩,
  ⟨some 111, .mv (.tmp 145), none, []⟩]
def F.lens_endless.L5 : ACode := .seq (.region F.lens_endless.r25) (.seq (.cond (.tmp 112) (.skip) (.exit 10)) (.seq (.block 11 (.seq (.region F.lens_endless.r26) (.draw F.lens_endless.r27 []))) (.region F.lens_endless.r28)))
def F.lens_endless.r29 : List DOp := [
  ⟨some 146, .bin .add (.tmp 106) (.const (.int .i64 1)), none, []⟩,
  ⟨some 106, .mv (.tmp 146), none, []⟩]
def F.lens_endless.L4 : ACode := .seq (.region F.lens_endless.r22) (.seq (.cond (.tmp 107) (.skip) (.exit 8)) (.seq (.block 9 (.seq (.region F.lens_endless.r23) (.seq (.region F.lens_endless.r24) (.block 10 (.loop F.lens_endless.L5))))) (.region F.lens_endless.r29)))
def F.lens_endless.r30 : List DOp := [
  ⟨some 147, .bin .add (.tmp 101) (.const (.int .i64 1)), none, []⟩,
  ⟨some 101, .mv (.tmp 147), none, []⟩]
def F.lens_endless.L3 : ACode := .seq (.region F.lens_endless.r19) (.seq (.cond (.tmp 102) (.skip) (.exit 6)) (.seq (.block 7 (.seq (.region F.lens_endless.r20) (.seq (.region F.lens_endless.r21) (.block 8 (.loop F.lens_endless.L4))))) (.region F.lens_endless.r30)))
def F.lens_endless.r31 : List DOp := [
  ⟨some 148, .mv (.tmp 5), none, []⟩,
  ⟨some 149, .len (.tmp 148), none, []⟩,
  ⟨some 150, .mv (.const (.int .i64 0)), none, []⟩]
def F.lens_endless.r32 : List DOp := [
  ⟨some 151, .bin .lss (.tmp 150) (.tmp 149), none, []⟩]
def F.lens_endless.r33 : List DOp := [
  ⟨some 152, .mv (.tmp 150), none, []⟩,
  ⟨some 16, .mv (.tmp 152), none, []⟩]
def F.lens_endless.r34 : List DOp := [
  ⟨some 153, .mv (.tmp 5), none, []⟩,
  ⟨some 154, .len (.tmp 153), none, []⟩,
  ⟨some 155, .mv (.const (.int .i64 0)), none, []⟩]
def F.lens_endless.r35 : List DOp := [
  ⟨some 156, .bin .lss (.tmp 155) (.tmp 154), none, []⟩]
def F.lens_endless.r36 : List DOp := [
  ⟨some 157, .mv (.tmp 155), none, []⟩,
  ⟨some 17, .mv (.tmp 157), none, []⟩]
def F.lens_endless.r37 : List DOp := [
  ⟨some 158, .mv (.tmp 6), none, []⟩,
  ⟨some 159, .mv (.tmp 16), none, []⟩,
  ⟨some 160, .idxs 1 (.tmp 158) (.tmp 159), none, []⟩,
  ⟨some 161, .load 1 false (.tmp 160), none, []⟩,
  ⟨some 162, .mv (.tmp 17), none, []⟩,
  ⟨some 163, .idxs 1 (.tmp 161) (.tmp 162), none, []⟩,
  ⟨some 164, .load 1 false (.tmp 163), none, []⟩,
  ⟨some 165, .mv (.tmp 164), none, []⟩,
  ⟨some 166, .mv (.tmp 16), (some (165, true)), []⟩,
  ⟨some 167, .mv (.tmp 17), (some (165, true)), []⟩,
  ⟨some 168, .bin .eql (.tmp 166) (.tmp 167), (some (165, true)), []⟩,
  ⟨some 169, .mv (.tmp 168), (some (165, true)), []⟩,
  ⟨some 170, .mv (.tmp 5), (some (169, false)), []⟩,
  ⟨some 171, .mv (.tmp 17), (some (169, false)), []⟩,
  ⟨some 172, .idxs 1 (.tmp 170) (.tmp 171), (some (169, false)), []⟩,
  ⟨some 173, .load 1 false (.tmp 172), (some (169, false)), []⟩,
  ⟨some 174, .mv (.tmp 16), (some (169, false)), []⟩,
  ⟨some 175, .idxs 1 (.tmp 173) (.tmp 174), (some (169, false)), []⟩,
  ⟨some 176, .load 1 false (.tmp 175), (some (169, false)), []⟩,
  ⟨some 177, .pick (.tmp 169) (.const (.bool true)) (.tmp 176), (some (165, true)), []⟩,
  ⟨some 178, .pick (.tmp 165) (.tmp 177) (.const (.bool false)), none, []⟩,
  ⟨some 179, .mv (.tmp 178), none, []⟩,
  ⟨some 180, .mv (.tmp 16), (some (179, true)), []⟩,
  ⟨some 181, .faddr 2 (.tmp 2), (some (179, true)), []⟩,
  ⟨some 182, .load 1 false (.tmp 181), (some (179, true)), []⟩,
  ⟨some 183, .bin .eql (.tmp 180) (.tmp 182), (some (179, true)), []⟩,
  ⟨some 184, .mv (.tmp 183), (some (179, true)), []⟩,
  ⟨some 185, .mv (.tmp 5), (some (184, false)), []⟩,
  ⟨some 186, .faddr 2 (.tmp 2), (some (184, false)), []⟩,
  ⟨some 187, .load 1 false (.tmp 186), (some (184, false)), []⟩,
  ⟨some 188, .idxs 1 (.tmp 185) (.tmp 187), (some (184, false)), []⟩,
  ⟨some 189, .load 1 false (.tmp 188), (some (184, false)), []⟩,
  ⟨some 190, .mv (.tmp 16), (some (184, false)), []⟩,
  ⟨some 191, .idxs 1 (.tmp 189) (.tmp 190), (some (184, false)), []⟩,
  ⟨some 192, .load 1 false (.tmp 191), (some (184, false)), []⟩,
  ⟨some 193, .pick (.tmp 184) (.const (.bool true)) (.tmp 192), (some (179, true)), []⟩,
  ⟨some 194, .pick (.tmp 179) (.tmp 193) (.const (.bool false)), none, []⟩]
def F.lens_endless.r38 : List DOp := [
  ⟨some 4, .mv (.const (.bool true)), none, []⟩]
def F.lens_endless.r39 : List DOp := [
  ⟨some 195, .bin .add (.tmp 155) (.const (.int .i64 1)), none, []⟩,
  ⟨some 155, .mv (.tmp 195), none, []⟩]
def F.lens_endless.L7 : ACode := .seq (.region F.lens_endless.r35) (.seq (.cond (.tmp 156) (.skip) (.exit 14)) (.seq (.block 15 (.seq (.region F.lens_endless.r36) (.seq (.region F.lens_endless.r37) (.cond (.tmp 194) (.seq (.region F.lens_endless.r38) (.ret)) (.skip))))) (.region F.lens_endless.r39)))
def F.lens_endless.r40 : List DOp := [
  ⟨some 196, .bin .add (.tmp 150) (.const (.int .i64 1)), none, []⟩,
  ⟨some 150, .mv (.tmp 196), none, []⟩]
def F.lens_endless.L6 : ACode := .seq (.region F.lens_endless.r32) (.seq (.cond (.tmp 151) (.skip) (.exit 12)) (.seq (.block 13 (.seq (.region F.lens_endless.r33) (.seq (.region F.lens_endless.r34) (.block 14 (.loop F.lens_endless.L7))))) (.region F.lens_endless.r40)))
def F.lens_endless.r41 : List DOp := [
  ⟨some 4, .mv (.const (.bool false)), none, []⟩]
def F.lens_endless.c : ACode := .seq (.region F.lens_endless.r0) (.seq (.draw F.lens_endless.r1 [(4, 2)]) (.seq (.seq (.region F.lens_endless.r2) (.block 0 (.loop F.lens_endless.L0))) (.seq (.seq (.region F.lens_endless.r18) (.block 6 (.loop F.lens_endless.L3))) (.seq (.seq (.region F.lens_endless.r31) (.block 12 (.loop F.lens_endless.L6))) (.seq (.region F.lens_endless.r41) (.ret))))))
def F.lens_endless : AFunc := ⟨F.lens_endless.c, [.tmp 4]⟩
/-! parlance/lens.square -/
def F.lens_square.r0 : List DOp := [
  ⟨some 2, .mv (.const (.slice none 0 0)), none, []⟩]
def F.lens_square.r1 : List DOp := [
  ⟨some 5, .mv (.tmp 0), none, []⟩,
  ⟨some 6, .mkslice 1 24 [.slice none 0 0] (.tmp 5) (.tmp 5), none, []⟩,
  ⟨some 3, .mv (.tmp 6), none, []⟩]
def F.lens_square.r2 : List DOp := [
  ⟨some 7, .mv (.tmp 3), none, []⟩,
  ⟨some 8, .len (.tmp 7), none, []⟩,
  ⟨some 9, .mv (.const (.int .i64 0)), none, []⟩]
def F.lens_square.r3 : List DOp := [
  ⟨some 10, .bin .lss (.tmp 9) (.tmp 8), none, []⟩]
def F.lens_square.r4 : List DOp := [
  ⟨some 11, .mv (.tmp 9), none, []⟩,
  ⟨some 4, .mv (.tmp 11), none, []⟩]
def F.lens_square.r5 : List DOp := [
  ⟨some 12, .mv (.tmp 3), none, []⟩,
  ⟨some 13, .mv (.tmp 4), none, []⟩,
  ⟨some 14, .mv (.tmp 0), none, []⟩,
  ⟨some 15, .mkslice 1 1 [.bool false] (.tmp 14) (.tmp 14), none, []⟩,
  ⟨some 16, .idxs 1 (.tmp 12) (.tmp 13), none, []⟩,
  ⟨none, .store 1 (.tmp 16) (.tmp 15), none, []⟩]
def F.lens_square.r6 : List DOp := [
  ⟨some 17, .bin .add (.tmp 9) (.const (.int .i64 1)), none, []⟩,
  ⟨some 9, .mv (.tmp 17), none, []⟩]
def F.lens_square.L0 : ACode := .seq (.region F.lens_square.r3) (.seq (.cond (.tmp 10) (.skip) (.exit 0)) (.seq (.block 1 (.seq (.region F.lens_square.r4) (.region F.lens_square.r5))) (.region F.lens_square.r6)))
def F.lens_square.r7 : List DOp := [
  ⟨some 18, .mv (.tmp 3), none, []⟩,
  ⟨some 2, .mv (.tmp 18), none, []⟩]
def F.lens_square.c : ACode := .seq (.region F.lens_square.r0) (.seq (.region F.lens_square.r1) (.seq (.seq (.region F.lens_square.r2) (.block 0 (.loop F.lens_square.L0))) (.seq (.region F.lens_square.r7) (.ret))))
def F.lens_square : AFunc := ⟨F.lens_square.c, [.tmp 2]⟩
end Go.Proofs.Ythgdobdhdfjhfaa
