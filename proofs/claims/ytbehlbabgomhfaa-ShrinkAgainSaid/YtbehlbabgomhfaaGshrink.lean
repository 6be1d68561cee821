/- The abstract code of package shrink, written by wip/tools/gen.py from the translation. -/
import Derived.Test.YtbehlbabgomhfaaI
namespace Go.Proofs.Ytbehlbabgomhfaa
open Go Go.Ab
/-! parlance/shrink.Word -/
def F.shrink_Word.r0 : List DOp := [
  ⟨some 4, .mv (.const (.slice none 0 0)), none, []⟩,
  ⟨some 5, .mv (.const (.int .i64 0)), none, []⟩]
def F.shrink_Word.r1 : List DOp := [
  ⟨some 8, .mv (.tmp 0), none, []⟩,
  ⟨some 9, .len (.tmp 8), none, []⟩,
  ⟨some 10, .bin .gtr (.tmp 9) (.const (.int .i64 60)), none, []⟩]
def F.shrink_Word.r2 : List DOp := [
  ⟨some 4, .mv (.const (.slice none 0 0)), none, []⟩,
  ⟨some 5, .mv (.const (.int .i64 2)), none, []⟩]
def F.shrink_Word.r3 : List DOp := [
  ⟨some 11, .mv (.tmp 1), none, []⟩,
  ⟨some 12, .mv (.tmp 0), none, []⟩,
  ⟨some 13, .mv (.tmp 0), none, []⟩,
  ⟨some 14, .len (.tmp 13), none, []⟩,
  ⟨some 15, .call I.shrink_without [.tmp 12, .tmp 14], none, []⟩,
  ⟨some 16, .callv (.tmp 11) [.tmp 15], none, []⟩,
  ⟨some 17, .un .not (.tmp 16), none, []⟩]
def F.shrink_Word.r4 : List DOp := [
  ⟨some 4, .mv (.const (.slice none 0 0)), none, []⟩,
  ⟨some 5, .mv (.const (.int .i64 7)), none, []⟩]
def F.shrink_Word.r5 : List DOp := [
  ⟨some 18, .mv (.tmp 0), none, []⟩,
  ⟨some 19, .mv (.tmp 0), none, []⟩,
  ⟨some 20, .len (.tmp 19), none, []⟩,
  ⟨some 21, .call I.shrink_without [.tmp 18, .tmp 20], none, []⟩,
  ⟨some 0, .mv (.tmp 21), none, []⟩]
def F.shrink_Word.r6 : List DOp := [
  ⟨some 6, .mv (.const (.int .i64 0)), none, []⟩]
def F.shrink_Word.r7 : List DOp := [
  ⟨some 22, .mv (.tmp 6), none, []⟩,
  ⟨some 23, .mv (.tmp 0), none, []⟩,
  ⟨some 24, .len (.tmp 23), none, []⟩,
  ⟨some 25, .bin .lss (.tmp 22) (.tmp 24), none, []⟩]
def F.shrink_Word.r8 : List DOp := [
  ⟨some 26, .mv (.tmp 0), none, []⟩,
  ⟨some 27, .mv (.tmp 6), none, []⟩,
  ⟨some 28, .call I.shrink_without [.tmp 26, .tmp 27], none, []⟩,
  ⟨some 7, .mv (.tmp 28), none, []⟩]
def F.shrink_Word.r9 : List DOp := [
  ⟨some 29, .mv (.tmp 1), none, []⟩,
  ⟨some 30, .mv (.tmp 7), none, []⟩,
  ⟨some 31, .mv (.tmp 7), none, []⟩,
  ⟨some 32, .len (.tmp 31), none, []⟩,
  ⟨some 33, .call I.shrink_without [.tmp 30, .tmp 32], none, []⟩,
  ⟨some 34, .callv (.tmp 29) [.tmp 33], none, []⟩]
def F.shrink_Word.r10 : List DOp := [
  ⟨some 35, .mv (.tmp 7), none, []⟩,
  ⟨some 0, .mv (.tmp 35), none, []⟩,
  ⟨some 6, .mv (.const (.int .i64 0)), none, []⟩]
def F.shrink_Word.r11 : List DOp := [
  ⟨some 36, .mv (.tmp 6), none, []⟩,
  ⟨some 37, .bin .add (.tmp 36) (.const (.int .i64 1)), none, []⟩,
  ⟨some 6, .mv (.tmp 37), none, []⟩]
def F.shrink_Word.L0 : ACode := .seq (.seq (.region F.shrink_Word.r7) (.cond (.tmp 25) (.skip) (.exit 0))) (.block 1 (.seq (.region F.shrink_Word.r8) (.seq (.region F.shrink_Word.r9) (.cond (.tmp 34) (.region F.shrink_Word.r10) (.region F.shrink_Word.r11)))))
def F.shrink_Word.r12 : List DOp := [
  ⟨some 38, .mv (.tmp 0), none, []⟩,
  ⟨some 4, .mv (.tmp 38), none, []⟩,
  ⟨some 5, .mv (.const (.int .i64 0)), none, []⟩]
def F.shrink_Word.c : ACode := .seq (.region F.shrink_Word.r0) (.seq (.seq (.region F.shrink_Word.r1) (.cond (.tmp 10) (.seq (.region F.shrink_Word.r2) (.ret)) (.skip))) (.seq (.seq (.region F.shrink_Word.r3) (.cond (.tmp 17) (.seq (.region F.shrink_Word.r4) (.ret)) (.skip))) (.seq (.region F.shrink_Word.r5) (.seq (.seq (.region F.shrink_Word.r6) (.block 0 (.loop F.shrink_Word.L0))) (.seq (.region F.shrink_Word.r12) (.ret))))))
def F.shrink_Word : AFunc := ⟨F.shrink_Word.c, [.tmp 4, .tmp 5]⟩
/-! parlance/shrink.Lower -/
def F.shrink_Lower.r0 : List DOp := [
  ⟨some 4, .mv (.const (.slice none 0 0)), none, []⟩,
  ⟨some 5, .mv (.const (.int .i64 0)), none, []⟩]
def F.shrink_Lower.r1 : List DOp := [
  ⟨some 11, .mv (.tmp 0), none, []⟩,
  ⟨some 12, .len (.tmp 11), none, []⟩,
  ⟨some 13, .bin .gtr (.tmp 12) (.const (.int .i64 60)), none, []⟩]
def F.shrink_Lower.r2 : List DOp := [
  ⟨some 4, .mv (.const (.slice none 0 0)), none, []⟩,
  ⟨some 5, .mv (.const (.int .i64 2)), none, []⟩]
def F.shrink_Lower.r3 : List DOp := [
  ⟨some 14, .mv (.tmp 0), none, []⟩,
  ⟨some 15, .len (.tmp 14), none, []⟩,
  ⟨some 16, .mv (.const (.int .i64 0)), none, []⟩]
def F.shrink_Lower.r4 : List DOp := [
  ⟨some 17, .bin .lss (.tmp 16) (.tmp 15), none, []⟩]
def F.shrink_Lower.r5 : List DOp := [
  ⟨some 18, .idxs 1 (.tmp 14) (.tmp 16), none, []⟩,
  ⟨some 19, .load 1 false (.tmp 18), none, []⟩,
  ⟨some 7, .mv (.tmp 19), none, []⟩]
def F.shrink_Lower.r6 : List DOp := [
  ⟨some 20, .mv (.tmp 7), none, []⟩,
  ⟨some 21, .bin .lss (.tmp 20) (.const (.int .i64 0)), none, []⟩,
  ⟨some 22, .mv (.tmp 21), none, []⟩,
  ⟨some 23, .mv (.tmp 7), (some (22, false)), []⟩,
  ⟨some 24, .bin .geq (.tmp 23) (.const (.int .i64 8)), (some (22, false)), []⟩,
  ⟨some 25, .pick (.tmp 22) (.const (.bool true)) (.tmp 24), none, []⟩]
def F.shrink_Lower.r7 : List DOp := [
  ⟨some 4, .mv (.const (.slice none 0 0)), none, []⟩,
  ⟨some 5, .mv (.const (.int .i64 1)), none, []⟩]
def F.shrink_Lower.r8 : List DOp := [
  ⟨some 26, .bin .add (.tmp 16) (.const (.int .i64 1)), none, []⟩,
  ⟨some 16, .mv (.tmp 26), none, []⟩]
def F.shrink_Lower.L0 : ACode := .seq (.region F.shrink_Lower.r4) (.seq (.cond (.tmp 17) (.skip) (.exit 0)) (.seq (.block 1 (.seq (.region F.shrink_Lower.r5) (.seq (.region F.shrink_Lower.r6) (.cond (.tmp 25) (.seq (.region F.shrink_Lower.r7) (.ret)) (.skip))))) (.region F.shrink_Lower.r8)))
def F.shrink_Lower.r9 : List DOp := [
  ⟨some 27, .mv (.tmp 0), none, []⟩,
  ⟨some 28, .mv (.tmp 0), none, []⟩,
  ⟨some 29, .len (.tmp 28), none, []⟩,
  ⟨some 30, .call I.shrink_without [.tmp 27, .tmp 29], none, []⟩,
  ⟨some 0, .mv (.tmp 30), none, []⟩]
def F.shrink_Lower.r10 : List DOp := [
  ⟨some 31, .mv (.tmp 1), none, []⟩,
  ⟨some 32, .mv (.tmp 0), none, []⟩,
  ⟨some 33, .mv (.tmp 0), none, []⟩,
  ⟨some 34, .len (.tmp 33), none, []⟩,
  ⟨some 35, .call I.shrink_without [.tmp 32, .tmp 34], none, []⟩,
  ⟨some 36, .callv (.tmp 31) [.tmp 35], none, []⟩,
  ⟨some 37, .un .not (.tmp 36), none, []⟩]
def F.shrink_Lower.r11 : List DOp := [
  ⟨some 4, .mv (.const (.slice none 0 0)), none, []⟩,
  ⟨some 5, .mv (.const (.int .i64 7)), none, []⟩]
def F.shrink_Lower.r12 : List DOp := [
  ⟨some 8, .mv (.const (.int .i64 0)), none, []⟩]
def F.shrink_Lower.r13 : List DOp := [
  ⟨some 38, .mv (.tmp 8), none, []⟩,
  ⟨some 39, .mv (.tmp 0), none, []⟩,
  ⟨some 40, .len (.tmp 39), none, []⟩,
  ⟨some 41, .bin .lss (.tmp 38) (.tmp 40), none, []⟩]
def F.shrink_Lower.r15 : List DOp := [
  ⟨some 44, .mv (.tmp 0), none, []⟩,
  ⟨some 45, .mv (.tmp 8), none, []⟩,
  ⟨some 46, .idxs 1 (.tmp 44) (.tmp 45), none, []⟩,
  ⟨some 47, .load 1 false (.tmp 46), none, []⟩,
  ⟨some 48, .mv (.const (.int .i64 0)), none, []⟩]
def F.shrink_Lower.r16 : List DOp := [
  ⟨some 49, .bin .lss (.tmp 48) (.tmp 47), none, []⟩]
def F.shrink_Lower.r17 : List DOp := [
  ⟨some 50, .mv (.tmp 48), none, []⟩,
  ⟨some 9, .mv (.tmp 50), none, []⟩]
def F.shrink_Lower.r18 : List DOp := [
  ⟨some 51, .mv (.tmp 0), none, []⟩,
  ⟨some 52, .mv (.tmp 0), none, []⟩,
  ⟨some 53, .len (.tmp 52), none, []⟩,
  ⟨some 54, .call I.shrink_without [.tmp 51, .tmp 53], none, []⟩,
  ⟨some 10, .mv (.tmp 54), none, []⟩]
def F.shrink_Lower.r19 : List DOp := [
  ⟨some 55, .mv (.tmp 10), none, []⟩,
  ⟨some 56, .mv (.tmp 8), none, []⟩,
  ⟨some 57, .mv (.tmp 9), none, []⟩,
  ⟨some 58, .idxs 1 (.tmp 55) (.tmp 56), none, []⟩,
  ⟨none, .store 1 (.tmp 58) (.tmp 57), none, []⟩]
def F.shrink_Lower.r20 : List DOp := [
  ⟨some 59, .mv (.tmp 1), none, []⟩,
  ⟨some 60, .mv (.tmp 10), none, []⟩,
  ⟨some 61, .mv (.tmp 10), none, []⟩,
  ⟨some 62, .len (.tmp 61), none, []⟩,
  ⟨some 63, .call I.shrink_without [.tmp 60, .tmp 62], none, []⟩,
  ⟨some 64, .callv (.tmp 59) [.tmp 63], none, []⟩]
def F.shrink_Lower.r21 : List DOp := [
  ⟨some 65, .mv (.tmp 10), none, []⟩,
  ⟨some 0, .mv (.tmp 65), none, []⟩,
  ⟨some 8, .mv (.const (.int .i64 (-1))), none, []⟩]
def F.shrink_Lower.r22 : List DOp := [
  ⟨some 66, .bin .add (.tmp 48) (.const (.int .i64 1)), none, []⟩,
  ⟨some 48, .mv (.tmp 66), none, []⟩]
def F.shrink_Lower.L2 : ACode := .seq (.region F.shrink_Lower.r16) (.seq (.cond (.tmp 49) (.skip) (.exit 4)) (.seq (.block 5 (.seq (.region F.shrink_Lower.r17) (.seq (.region F.shrink_Lower.r18) (.seq (.region F.shrink_Lower.r19) (.seq (.region F.shrink_Lower.r20) (.cond (.tmp 64) (.seq (.region F.shrink_Lower.r21) (.exit 4)) (.skip))))))) (.region F.shrink_Lower.r22)))
def F.shrink_Lower.r14 : List DOp := [
  ⟨some 42, .mv (.tmp 8), none, []⟩,
  ⟨some 43, .bin .add (.tmp 42) (.const (.int .i64 1)), none, []⟩,
  ⟨some 8, .mv (.tmp 43), none, []⟩]
def F.shrink_Lower.L1 : ACode := .seq (.seq (.region F.shrink_Lower.r13) (.cond (.tmp 41) (.skip) (.exit 2))) (.seq (.block 3 (.seq (.region F.shrink_Lower.r15) (.block 4 (.loop F.shrink_Lower.L2)))) (.region F.shrink_Lower.r14))
def F.shrink_Lower.r23 : List DOp := [
  ⟨some 67, .mv (.tmp 0), none, []⟩,
  ⟨some 4, .mv (.tmp 67), none, []⟩,
  ⟨some 5, .mv (.const (.int .i64 0)), none, []⟩]
def F.shrink_Lower.c : ACode := .seq (.region F.shrink_Lower.r0) (.seq (.seq (.region F.shrink_Lower.r1) (.cond (.tmp 13) (.seq (.region F.shrink_Lower.r2) (.ret)) (.skip))) (.seq (.seq (.region F.shrink_Lower.r3) (.block 0 (.loop F.shrink_Lower.L0))) (.seq (.region F.shrink_Lower.r9) (.seq (.seq (.region F.shrink_Lower.r10) (.cond (.tmp 37) (.seq (.region F.shrink_Lower.r11) (.ret)) (.skip))) (.seq (.seq (.region F.shrink_Lower.r12) (.block 2 (.loop F.shrink_Lower.L1))) (.seq (.region F.shrink_Lower.r23) (.ret)))))))
def F.shrink_Lower : AFunc := ⟨F.shrink_Lower.c, [.tmp 4, .tmp 5]⟩
/-! parlance/shrink.without -/
def F.shrink_without.r0 : List DOp := [
  ⟨some 4, .mv (.const (.slice none 0 0)), none, []⟩]
def F.shrink_without.r1 : List DOp := [
  ⟨some 8, .mv (.tmp 0), none, []⟩,
  ⟨some 9, .len (.tmp 8), none, []⟩,
  ⟨some 10, .mkslice 1 8 [.int .i64 0] (.const (.int .i64 0)) (.tmp 9), none, []⟩,
  ⟨some 5, .mv (.tmp 10), none, []⟩]
def F.shrink_without.r2 : List DOp := [
  ⟨some 11, .mv (.tmp 0), none, []⟩,
  ⟨some 12, .len (.tmp 11), none, []⟩,
  ⟨some 13, .mv (.const (.int .i64 0)), none, []⟩]
def F.shrink_without.r3 : List DOp := [
  ⟨some 14, .bin .lss (.tmp 13) (.tmp 12), none, []⟩]
def F.shrink_without.r4 : List DOp := [
  ⟨some 15, .mv (.tmp 13), none, []⟩,
  ⟨some 16, .idxs 1 (.tmp 11) (.tmp 13), none, []⟩,
  ⟨some 17, .load 1 false (.tmp 16), none, []⟩,
  ⟨some 6, .mv (.tmp 15), none, []⟩,
  ⟨some 7, .mv (.tmp 17), none, []⟩]
def F.shrink_without.r5 : List DOp := [
  ⟨some 18, .mv (.tmp 6), none, []⟩,
  ⟨some 19, .mv (.tmp 1), none, []⟩,
  ⟨some 20, .bin .neq (.tmp 18) (.tmp 19), none, []⟩]
def F.shrink_without.r6 : List DOp := [
  ⟨some 21, .mv (.tmp 5), none, []⟩,
  ⟨some 22, .mv (.tmp 7), none, []⟩,
  ⟨some 23, .bslice 1 1 [.int .i64 0] [(0, 1, .tmp 22)], none, []⟩,
  ⟨some 24, .append 1 8 (.tmp 21) (.tmp 23), none, []⟩,
  ⟨some 5, .mv (.tmp 24), none, []⟩]
def F.shrink_without.r7 : List DOp := [
  ⟨some 25, .bin .add (.tmp 13) (.const (.int .i64 1)), none, []⟩,
  ⟨some 13, .mv (.tmp 25), none, []⟩]
def F.shrink_without.L0 : ACode := .seq (.region F.shrink_without.r3) (.seq (.cond (.tmp 14) (.skip) (.exit 0)) (.seq (.block 1 (.seq (.region F.shrink_without.r4) (.seq (.region F.shrink_without.r5) (.cond (.tmp 20) (.region F.shrink_without.r6) (.skip))))) (.region F.shrink_without.r7)))
def F.shrink_without.r8 : List DOp := [
  ⟨some 26, .mv (.tmp 5), none, []⟩,
  ⟨some 4, .mv (.tmp 26), none, []⟩]
def F.shrink_without.c : ACode := .seq (.region F.shrink_without.r0) (.seq (.region F.shrink_without.r1) (.seq (.seq (.region F.shrink_without.r2) (.block 0 (.loop F.shrink_without.L0))) (.seq (.region F.shrink_without.r8) (.ret))))
def F.shrink_without : AFunc := ⟨F.shrink_without.c, [.tmp 4]⟩
end Go.Proofs.Ytbehlbabgomhfaa
