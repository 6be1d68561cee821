/- The abstract code of package mean, written by wip/tools/gen.py from the translation. -/
import Derived.Test.YthgdobdhdfjhfaaI
namespace Go.Proofs.Ythgdobdhdfjhfaa
open Go Go.Ab
/-! parlance/mean.Accepts -/
def F.mean_Accepts.r0 : List DOp := [
  ⟨some 2, .box (.tmp 0), none, []⟩,
  ⟨some 4, .mv (.const (.bool false)), none, []⟩,
  ⟨some 5, .mv (.const (.int .i64 0)), none, []⟩]
def F.mean_Accepts.r1 : List DOp := [
  ⟨some 7, .load 4 true (.tmp 2), none, []⟩,
  ⟨some 8, .mv (.tmp 1), none, []⟩,
  ⟨some 9, .call I.mean_check [.tmp 7, .tmp 8], none, []⟩,
  ⟨some 6, .mv (.tmp 9), none, []⟩]
def F.mean_Accepts.r2 : List DOp := [
  ⟨some 10, .mv (.tmp 6), none, []⟩,
  ⟨some 11, .bin .neq (.tmp 10) (.const (.int .i64 0)), none, []⟩]
def F.mean_Accepts.r3 : List DOp := [
  ⟨some 12, .mv (.tmp 6), none, []⟩,
  ⟨some 4, .mv (.const (.bool false)), none, []⟩,
  ⟨some 5, .mv (.tmp 12), none, []⟩]
def F.mean_Accepts.r4 : List DOp := [
  ⟨some 13, .load 4 true (.tmp 2), none, []⟩,
  ⟨some 14, .mv (.tmp 1), none, []⟩,
  ⟨some 15, .call I.mean_derived [.tmp 13, .tmp 14], none, []⟩,
  ⟨some 16, .faddr 2 (.tmp 2), none, []⟩,
  ⟨some 17, .load 1 false (.tmp 16), none, []⟩,
  ⟨some 18, .build [.bool false, .int .i64 0] [(1, 1, .tmp 17)], none, []⟩,
  ⟨some 19, .mv (.tmp 1), none, []⟩,
  ⟨some 20, .len (.tmp 19), none, []⟩,
  ⟨some 21, .call I.mean_ends_is [.tmp 15, .tmp 18, .const (.int .i64 0), .tmp 20], none, []⟩,
  ⟨some 4, .mv (.tmp 21), none, []⟩,
  ⟨some 5, .mv (.const (.int .i64 0)), none, []⟩]
def F.mean_Accepts.c : ACode := .seq (.region F.mean_Accepts.r0) (.seq (.seq (.region F.mean_Accepts.r1) (.seq (.region F.mean_Accepts.r2) (.cond (.tmp 11) (.seq (.region F.mean_Accepts.r3) (.ret)) (.skip)))) (.seq (.draw F.mean_Accepts.r4 [(4, 2)]) (.ret)))
def F.mean_Accepts : AFunc := ⟨F.mean_Accepts.c, [.tmp 4, .tmp 5]⟩
/-! parlance/mean.check -/
def F.mean_check.r0 : List DOp := [
  ⟨some 2, .box (.tmp 0), none, []⟩,
  ⟨some 4, .mv (.const (.int .i64 0)), none, []⟩]
def F.mean_check.r1 : List DOp := [
  ⟨some 6, .load 4 true (.tmp 2), none, []⟩,
  ⟨some 7, .call I.gram_Check [.tmp 6], none, []⟩,
  ⟨some 5, .mv (.tmp 7), none, []⟩]
def F.mean_check.r2 : List DOp := [
  ⟨some 8, .mv (.tmp 5), none, []⟩,
  ⟨some 9, .bin .neq (.tmp 8) (.const (.int .i64 0)), none, []⟩]
def F.mean_check.r3 : List DOp := [
  ⟨some 10, .mv (.tmp 5), none, []⟩,
  ⟨some 4, .mv (.tmp 10), none, []⟩]
def F.mean_check.r4 : List DOp := [
  ⟨some 11, .load 4 true (.tmp 2), none, []⟩,
  ⟨some 12, .mv (.tmp 1), none, []⟩,
  ⟨some 13, .call I.gram_Word [.tmp 11, .tmp 12, .const (.int .i64 12)], none, []⟩,
  ⟨some 4, .mv (.tmp 13), none, []⟩]
def F.mean_check.c : ACode := .seq (.region F.mean_check.r0) (.seq (.seq (.region F.mean_check.r1) (.seq (.region F.mean_check.r2) (.cond (.tmp 9) (.seq (.region F.mean_check.r3) (.ret)) (.skip)))) (.seq (.region F.mean_check.r4) (.ret)))
def F.mean_check : AFunc := ⟨F.mean_check.c, [.tmp 4]⟩
/-! parlance/mean.derived -/
def F.mean_derived.r0 : List DOp := [
  ⟨some 2, .box (.tmp 0), none, []⟩,
  ⟨some 4, .mv (.const (.pointer none)), none, []⟩]
def F.mean_derived.r1 : List DOp := [
  ⟨some 14, .load 4 true (.tmp 2), none, []⟩,
  ⟨some 15, .mv (.tmp 1), none, []⟩,
  ⟨some 16, .faddr 1 (.tmp 2), none, []⟩,
  ⟨some 17, .load 1 false (.tmp 16), none, []⟩,
  ⟨some 18, .mkslice 1 24 [.slice none 0 0] (.tmp 17) (.tmp 17), none, []⟩,
  ⟨some 19, .build [.int .i64 0, .int .i64 0, .int .i64 0, .slice none 0 0, .slice none 0 0, .slice none 0 0] [(0, 4, .tmp 14), (4, 1, .tmp 15), (5, 1, .tmp 18)], none, []⟩,
  ⟨some 20, .box (.tmp 19), none, []⟩,
  ⟨some 5, .mv (.tmp 20), none, []⟩]
def F.mean_derived.r2 : List DOp := [
  ⟨some 21, .mv (.tmp 5), none, []⟩,
  ⟨some 22, .nilchk (.tmp 21), none, []⟩,
  ⟨some 23, .faddr 5 (.tmp 22), none, []⟩,
  ⟨some 24, .load 1 false (.tmp 23), none, []⟩,
  ⟨some 25, .len (.tmp 24), none, []⟩,
  ⟨some 26, .mv (.const (.int .i64 0)), none, []⟩]
def F.mean_derived.r3 : List DOp := [
  ⟨some 27, .bin .lss (.tmp 26) (.tmp 25), none, []⟩]
def F.mean_derived.r4 : List DOp := [
  ⟨some 28, .mv (.tmp 26), none, []⟩,
  ⟨some 6, .mv (.tmp 28), none, []⟩]
def F.mean_derived.r5 : List DOp := [
  ⟨some 29, .mv (.tmp 5), none, []⟩,
  ⟨some 30, .nilchk (.tmp 29), none, []⟩,
  ⟨some 31, .faddr 5 (.tmp 30), none, []⟩,
  ⟨some 32, .load 1 false (.tmp 31), none, []⟩,
  ⟨some 33, .mv (.tmp 6), none, []⟩,
  ⟨some 34, .mv (.tmp 1), none, []⟩,
  ⟨some 35, .len (.tmp 34), none, []⟩,
  ⟨some 36, .bin .add (.tmp 35) (.const (.int .i64 1)), none, []⟩,
  ⟨some 37, .mkslice 1 4 [.int .u32 0] (.tmp 36) (.tmp 36), none, []⟩,
  ⟨some 38, .idxs 1 (.tmp 32) (.tmp 33), none, []⟩,
  ⟨none, .store 1 (.tmp 38) (.tmp 37), none, []⟩]
def F.mean_derived.r6 : List DOp := [
  ⟨some 39, .bin .add (.tmp 26) (.const (.int .i64 1)), none, []⟩,
  ⟨some 26, .mv (.tmp 39), none, []⟩]
def F.mean_derived.L0 : ACode := .seq (.region F.mean_derived.r3) (.seq (.cond (.tmp 27) (.skip) (.exit 0)) (.seq (.block 1 (.seq (.region F.mean_derived.r4) (.draw F.mean_derived.r5 []))) (.region F.mean_derived.r6)))
def F.mean_derived.r7 : List DOp := [
  ⟨some 7, .mv (.const (.bool true)), none, []⟩]
def F.mean_derived.r8 : List DOp := [
  ⟨some 40, .mv (.tmp 7), none, []⟩]
def F.mean_derived.r9 : List DOp := [
  ⟨some 7, .mv (.const (.bool false)), none, []⟩]
def F.mean_derived.r10 : List DOp := [
  ⟨some 41, .faddr 3 (.tmp 2), none, []⟩,
  ⟨some 42, .load 1 false (.tmp 41), none, []⟩,
  ⟨some 43, .len (.tmp 42), none, []⟩,
  ⟨some 44, .mv (.const (.int .i64 0)), none, []⟩]
def F.mean_derived.r11 : List DOp := [
  ⟨some 45, .bin .lss (.tmp 44) (.tmp 43), none, []⟩]
def F.mean_derived.r12 : List DOp := [
  ⟨some 46, .idxs 2 (.tmp 42) (.tmp 44), none, []⟩,
  ⟨some 47, .load 2 true (.tmp 46), none, []⟩,
  ⟨some 9, .alloc [.int .i64 0, .slice none 0 0], none, []⟩,
  ⟨none, .store 2 (.tmp 9) (.tmp 47), none, []⟩]
def F.mean_derived.r13 : List DOp := [
  ⟨some 48, .mv (.tmp 5), none, []⟩,
  ⟨some 49, .nilchk (.tmp 48), none, []⟩,
  ⟨some 50, .faddr 5 (.tmp 49), none, []⟩,
  ⟨some 51, .load 1 false (.tmp 50), none, []⟩,
  ⟨some 52, .faddr 0 (.tmp 9), none, []⟩,
  ⟨some 53, .load 1 false (.tmp 52), none, []⟩,
  ⟨some 54, .idxs 1 (.tmp 51) (.tmp 53), none, []⟩,
  ⟨some 55, .load 1 false (.tmp 54), none, []⟩,
  ⟨some 56, .len (.tmp 55), none, []⟩,
  ⟨some 57, .mv (.const (.int .i64 0)), none, []⟩]
def F.mean_derived.r14 : List DOp := [
  ⟨some 58, .bin .lss (.tmp 57) (.tmp 56), none, []⟩]
def F.mean_derived.r15 : List DOp := [
  ⟨some 59, .mv (.tmp 57), none, []⟩,
  ⟨some 10, .mv (.tmp 59), none, []⟩]
def F.mean_derived.r16 : List DOp := [
  ⟨some 60, .mv (.tmp 10), none, []⟩,
  ⟨some 61, .bin .shl (.const (.int .u32 1)) (.tmp 60), none, []⟩,
  ⟨some 11, .mv (.tmp 61), none, []⟩]
def F.mean_derived.r17 : List DOp := [
  ⟨some 62, .faddr 1 (.tmp 9), none, []⟩,
  ⟨some 63, .load 1 false (.tmp 62), none, []⟩,
  ⟨some 64, .len (.tmp 63), none, []⟩,
  ⟨some 65, .mv (.const (.int .i64 0)), none, []⟩]
def F.mean_derived.r18 : List DOp := [
  ⟨some 66, .bin .lss (.tmp 65) (.tmp 64), none, []⟩]
def F.mean_derived.r19 : List DOp := [
  ⟨some 67, .idxs 2 (.tmp 63) (.tmp 65), none, []⟩,
  ⟨some 68, .load 2 true (.tmp 67), none, []⟩,
  ⟨some 13, .alloc [.bool false, .int .i64 0], none, []⟩,
  ⟨none, .store 2 (.tmp 13) (.tmp 68), none, []⟩]
def F.mean_derived.r20 : List DOp := [
  ⟨some 69, .mv (.tmp 5), none, []⟩,
  ⟨some 70, .load 2 true (.tmp 13), none, []⟩,
  ⟨some 71, .mv (.tmp 11), none, []⟩,
  ⟨some 72, .call I.mean_ends_after [.tmp 69, .tmp 70, .tmp 71], none, []⟩,
  ⟨some 11, .mv (.tmp 72), none, []⟩]
def F.mean_derived.r21 : List DOp := [
  ⟨some 73, .bin .add (.tmp 65) (.const (.int .i64 1)), none, []⟩,
  ⟨some 65, .mv (.tmp 73), none, []⟩]
def F.mean_derived.L4 : ACode := .seq (.region F.mean_derived.r18) (.seq (.cond (.tmp 66) (.skip) (.exit 8)) (.seq (.block 9 (.seq (.region F.mean_derived.r19) (.region F.mean_derived.r20))) (.region F.mean_derived.r21)))
def F.mean_derived.r22 : List DOp := [
  ⟨some 74, .mv (.tmp 11), none, []⟩,
  ⟨some 75, .mv (.tmp 5), none, []⟩,
  ⟨some 76, .nilchk (.tmp 75), none, []⟩,
  ⟨some 77, .faddr 5 (.tmp 76), none, []⟩,
  ⟨some 78, .load 1 false (.tmp 77), none, []⟩,
  ⟨some 79, .faddr 0 (.tmp 9), none, []⟩,
  ⟨some 80, .load 1 false (.tmp 79), none, []⟩,
  ⟨some 81, .idxs 1 (.tmp 78) (.tmp 80), none, []⟩,
  ⟨some 82, .load 1 false (.tmp 81), none, []⟩,
  ⟨some 83, .mv (.tmp 10), none, []⟩,
  ⟨some 84, .idxs 1 (.tmp 82) (.tmp 83), none, []⟩,
  ⟨some 85, .load 1 false (.tmp 84), none, []⟩,
  ⟨some 86, .bin .andNot (.tmp 74) (.tmp 85), none, []⟩,
  ⟨some 87, .bin .neq (.tmp 86) (.const (.int .u32 0)), none, []⟩]
def F.mean_derived.r23 : List DOp := [
  ⟨some 88, .mv (.tmp 5), none, []⟩,
  ⟨some 89, .nilchk (.tmp 88), none, []⟩,
  ⟨some 90, .faddr 5 (.tmp 89), none, []⟩,
  ⟨some 91, .load 1 false (.tmp 90), none, []⟩,
  ⟨some 92, .faddr 0 (.tmp 9), none, []⟩,
  ⟨some 93, .load 1 false (.tmp 92), none, []⟩,
  ⟨some 94, .idxs 1 (.tmp 91) (.tmp 93), none, []⟩,
  ⟨some 95, .load 1 false (.tmp 94), none, []⟩,
  ⟨some 96, .mv (.tmp 10), none, []⟩,
  ⟨some 97, .idxs 1 (.tmp 95) (.tmp 96), none, []⟩,
  ⟨some 98, .load 1 false (.tmp 97), none, []⟩,
  ⟨some 99, .mv (.tmp 11), none, []⟩,
  ⟨some 100, .bin .or (.tmp 98) (.tmp 99), none, []⟩,
  ⟨some 101, .idxs 1 (.tmp 95) (.tmp 96), none, []⟩,
  ⟨none, .store 1 (.tmp 101) (.tmp 100), none, []⟩]
def F.mean_derived.r24 : List DOp := [
  ⟨some 7, .mv (.const (.bool true)), none, []⟩]
def F.mean_derived.r25 : List DOp := [
  ⟨some 102, .bin .add (.tmp 57) (.const (.int .i64 1)), none, []⟩,
  ⟨some 57, .mv (.tmp 102), none, []⟩]
def F.mean_derived.L3 : ACode := .seq (.region F.mean_derived.r14) (.seq (.cond (.tmp 58) (.skip) (.exit 6)) (.seq (.block 7 (.seq (.region F.mean_derived.r15) (.seq (.region F.mean_derived.r16) (.seq (.seq (.region F.mean_derived.r17) (.block 8 (.loop F.mean_derived.L4))) (.seq (.draw F.mean_derived.r22 []) (.cond (.tmp 87) (.seq (.draw F.mean_derived.r23 []) (.region F.mean_derived.r24)) (.skip))))))) (.region F.mean_derived.r25)))
def F.mean_derived.r26 : List DOp := [
  ⟨some 103, .bin .add (.tmp 44) (.const (.int .i64 1)), none, []⟩,
  ⟨some 44, .mv (.tmp 103), none, []⟩]
def F.mean_derived.L2 : ACode := .seq (.region F.mean_derived.r11) (.seq (.cond (.tmp 45) (.skip) (.exit 4)) (.seq (.block 5 (.seq (.region F.mean_derived.r12) (.seq (.draw F.mean_derived.r13 []) (.block 6 (.loop F.mean_derived.L3))))) (.region F.mean_derived.r26)))
def F.mean_derived.L1 : ACode := .seq (.seq (.region F.mean_derived.r8) (.cond (.tmp 40) (.skip) (.exit 2))) (.block 3 (.seq (.region F.mean_derived.r9) (.seq (.region F.mean_derived.r10) (.block 4 (.loop F.mean_derived.L2)))))
def F.mean_derived.r27 : List DOp := [
  ⟨some 104, .mv (.tmp 5), none, []⟩,
  ⟨some 4, .mv (.tmp 104), none, []⟩]
def F.mean_derived.c : ACode := .seq (.region F.mean_derived.r0) (.seq (.draw F.mean_derived.r1 []) (.seq (.seq (.region F.mean_derived.r2) (.block 0 (.loop F.mean_derived.L0))) (.seq (.seq (.region F.mean_derived.r7) (.block 2 (.loop F.mean_derived.L1))) (.seq (.region F.mean_derived.r27) (.ret)))))
def F.mean_derived : AFunc := ⟨F.mean_derived.c, [.tmp 4]⟩
/-! (*parlance/mean.ends).is -/
def F.mean_ends_is.r0 : List DOp := [
  ⟨some 5, .box (.tmp 1), none, []⟩,
  ⟨some 8, .mv (.const (.bool false)), none, []⟩]
def F.mean_ends_is.r1 : List DOp := [
  ⟨some 9, .mv (.tmp 0), none, []⟩,
  ⟨some 10, .load 2 true (.tmp 5), none, []⟩,
  ⟨some 11, .mv (.tmp 2), none, []⟩,
  ⟨some 12, .bin .shl (.const (.int .u32 1)) (.tmp 11), none, []⟩,
  ⟨some 13, .call I.mean_ends_after [.tmp 9, .tmp 10, .tmp 12], none, []⟩,
  ⟨some 14, .mv (.tmp 3), none, []⟩,
  ⟨some 15, .bin .shr (.tmp 13) (.tmp 14), none, []⟩,
  ⟨some 16, .bin .and (.tmp 15) (.const (.int .u32 1)), none, []⟩,
  ⟨some 17, .bin .eql (.tmp 16) (.const (.int .u32 1)), none, []⟩,
  ⟨some 8, .mv (.tmp 17), none, []⟩]
def F.mean_ends_is.c : ACode := .seq (.region F.mean_ends_is.r0) (.seq (.draw F.mean_ends_is.r1 []) (.ret))
def F.mean_ends_is : AFunc := ⟨F.mean_ends_is.c, [.tmp 8]⟩
/-! (*parlance/mean.ends).after -/
def F.mean_ends_after.r0 : List DOp := [
  ⟨some 4, .box (.tmp 1), none, []⟩,
  ⟨some 6, .mv (.const (.int .u32 0)), none, []⟩]
def F.mean_ends_after.r1 : List DOp := [
  ⟨some 7, .mv (.const (.int .u32 0)), none, []⟩]
def F.mean_ends_after.r2 : List DOp := [
  ⟨some 8, .mv (.const (.int .i64 0)), none, []⟩]
def F.mean_ends_after.r3 : List DOp := [
  ⟨some 9, .mv (.tmp 8), none, []⟩,
  ⟨some 10, .mv (.tmp 0), none, []⟩,
  ⟨some 11, .nilchk (.tmp 10), none, []⟩,
  ⟨some 12, .faddr 4 (.tmp 11), none, []⟩,
  ⟨some 13, .load 1 false (.tmp 12), none, []⟩,
  ⟨some 14, .len (.tmp 13), none, []⟩,
  ⟨some 15, .bin .leq (.tmp 9) (.tmp 14), none, []⟩]
def F.mean_ends_after.r5 : List DOp := [
  ⟨some 18, .mv (.tmp 2), none, []⟩,
  ⟨some 19, .mv (.tmp 8), none, []⟩,
  ⟨some 20, .bin .shr (.tmp 18) (.tmp 19), none, []⟩,
  ⟨some 21, .bin .and (.tmp 20) (.const (.int .u32 1)), none, []⟩,
  ⟨some 22, .bin .eql (.tmp 21) (.const (.int .u32 0)), none, []⟩]
def F.mean_ends_after.r6 : List DOp := [
  ⟨some 24, .faddr 0 (.tmp 4), none, []⟩,
  ⟨some 25, .load 1 false (.tmp 24), none, []⟩,
  ⟨some 26, .un .not (.tmp 25), none, []⟩,
  ⟨some 23, .mv (.tmp 26), none, []⟩]
def F.mean_ends_after.r7 : List DOp := [
  ⟨some 27, .mv (.tmp 7), none, []⟩,
  ⟨some 28, .mv (.tmp 0), none, []⟩,
  ⟨some 29, .nilchk (.tmp 28), none, []⟩,
  ⟨some 30, .faddr 5 (.tmp 29), none, []⟩,
  ⟨some 31, .load 1 false (.tmp 30), none, []⟩,
  ⟨some 32, .faddr 1 (.tmp 4), none, []⟩,
  ⟨some 33, .load 1 false (.tmp 32), none, []⟩,
  ⟨some 34, .idxs 1 (.tmp 31) (.tmp 33), none, []⟩,
  ⟨some 35, .load 1 false (.tmp 34), none, []⟩,
  ⟨some 36, .mv (.tmp 8), none, []⟩,
  ⟨some 37, .idxs 1 (.tmp 35) (.tmp 36), none, []⟩,
  ⟨some 38, .load 1 false (.tmp 37), none, []⟩,
  ⟨some 39, .bin .or (.tmp 27) (.tmp 38), none, []⟩,
  ⟨some 7, .mv (.tmp 39), none, []⟩]
def F.mean_ends_after.r8 : List DOp := [
  ⟨some 41, .mv (.tmp 8), none, []⟩,
  ⟨some 42, .mv (.tmp 0), none, []⟩,
  ⟨some 43, .nilchk (.tmp 42), none, []⟩,
  ⟨some 44, .faddr 4 (.tmp 43), none, []⟩,
  ⟨some 45, .load 1 false (.tmp 44), none, []⟩,
  ⟨some 46, .len (.tmp 45), none, []⟩,
  ⟨some 47, .bin .lss (.tmp 41) (.tmp 46), none, []⟩,
  ⟨some 48, .mv (.tmp 47), none, []⟩,
  ⟨some 49, .mv (.tmp 0), (some (48, true)), []⟩,
  ⟨some 50, .nilchk (.tmp 49), (some (48, true)), []⟩,
  ⟨some 51, .faddr 4 (.tmp 50), (some (48, true)), []⟩,
  ⟨some 52, .load 1 false (.tmp 51), (some (48, true)), []⟩,
  ⟨some 53, .mv (.tmp 8), (some (48, true)), []⟩,
  ⟨some 54, .idxs 1 (.tmp 52) (.tmp 53), (some (48, true)), []⟩,
  ⟨some 55, .load 1 false (.tmp 54), (some (48, true)), []⟩,
  ⟨some 56, .faddr 1 (.tmp 4), (some (48, true)), []⟩,
  ⟨some 57, .load 1 false (.tmp 56), (some (48, true)), []⟩,
  ⟨some 58, .bin .eql (.tmp 55) (.tmp 57), (some (48, true)), []⟩,
  ⟨some 59, .pick (.tmp 48) (.tmp 58) (.const (.bool false)), none, []⟩,
  ⟨some 40, .mv (.tmp 59), none, []⟩]
def F.mean_ends_after.r9 : List DOp := [
  ⟨some 60, .mv (.tmp 7), none, []⟩,
  ⟨some 61, .mv (.tmp 8), none, []⟩,
  ⟨some 62, .bin .add (.tmp 61) (.const (.int .i64 1)), none, []⟩,
  ⟨some 63, .bin .shl (.const (.int .u32 1)) (.tmp 62), none, []⟩,
  ⟨some 64, .bin .or (.tmp 60) (.tmp 63), none, []⟩,
  ⟨some 7, .mv (.tmp 64), none, []⟩]
def F.mean_ends_after.r4 : List DOp := [
  ⟨some 16, .mv (.tmp 8), none, []⟩,
  ⟨some 17, .bin .add (.tmp 16) (.const (.int .i64 1)), none, []⟩,
  ⟨some 8, .mv (.tmp 17), none, []⟩]
def F.mean_ends_after.L0 : ACode := .seq (.seq (.region F.mean_ends_after.r3) (.cond (.tmp 15) (.skip) (.exit 0))) (.seq (.block 1 (.seq (.seq (.region F.mean_ends_after.r5) (.cond (.tmp 22) (.exit 1) (.skip))) (.block 2 (.seq (.region F.mean_ends_after.r6) (.cond (.tmp 23) (.draw F.mean_ends_after.r7 []) (.seq (.draw F.mean_ends_after.r8 []) (.cond (.tmp 40) (.region F.mean_ends_after.r9) (.skip)))))))) (.region F.mean_ends_after.r4))
def F.mean_ends_after.r10 : List DOp := [
  ⟨some 65, .mv (.tmp 7), none, []⟩,
  ⟨some 6, .mv (.tmp 65), none, []⟩]
def F.mean_ends_after.c : ACode := .seq (.region F.mean_ends_after.r0) (.seq (.region F.mean_ends_after.r1) (.seq (.seq (.region F.mean_ends_after.r2) (.block 0 (.loop F.mean_ends_after.L0))) (.seq (.region F.mean_ends_after.r10) (.ret))))
def F.mean_ends_after : AFunc := ⟨F.mean_ends_after.c, [.tmp 6]⟩
end Go.Proofs.Ythgdobdhdfjhfaa
