/- The abstract code of package shrink, written by wip/tools/gen.py from the translation. -/
import Derived.Test.YthgdobdhdfjhfaaI
namespace Go.Proofs.Ythgdobdhdfjhfaa
open Go Go.Ab
/-! parlance/shrink.Smaller -/
def F.shrink_Smaller.r0 : List DOp := [
  ⟨some 2, .box (.tmp 0), none, []⟩,
  ⟨some 3, .box (.tmp 1), none, []⟩,
  ⟨some 4, .mv (.const (.slice none 0 0)), none, []⟩]
def F.shrink_Smaller.r1 : List DOp := [
  ⟨some 13, .load 4 true (.tmp 2), none, []⟩,
  ⟨some 14, .load 3 true (.tmp 3), none, []⟩,
  ⟨some 15, .call I.tree_Check [.tmp 13, .tmp 14], none, []⟩,
  ⟨some 16, .bin .neq (.tmp 15) (.const (.int .i64 0)), none, []⟩,
  ⟨some 17, .mv (.tmp 16), none, []⟩,
  ⟨some 18, .faddr 0 (.tmp 3), (some (17, false)), []⟩,
  ⟨some 19, .load 1 false (.tmp 18), (some (17, false)), []⟩,
  ⟨some 20, .bin .lss (.tmp 19) (.const (.int .i64 0)), (some (17, false)), []⟩,
  ⟨some 21, .pick (.tmp 17) (.const (.bool true)) (.tmp 20), none, []⟩,
  ⟨some 22, .mv (.tmp 21), none, []⟩,
  ⟨some 23, .load 3 true (.tmp 3), (some (22, false)), []⟩,
  ⟨some 24, .call I.tree_Size [.tmp 23], (some (22, false)), []⟩,
  ⟨some 25, .bin .gtr (.tmp 24) (.const (.int .i64 60)), (some (22, false)), []⟩,
  ⟨some 26, .pick (.tmp 22) (.const (.bool true)) (.tmp 25), none, []⟩]
def F.shrink_Smaller.r2 : List DOp := [
  ⟨some 4, .mv (.const (.slice none 0 0)), none, []⟩]
def F.shrink_Smaller.r3 : List DOp := [
  ⟨some 5, .mv (.const (.slice none 0 0)), none, []⟩]
def F.shrink_Smaller.r4 : List DOp := [
  ⟨some 27, .faddr 2 (.tmp 3), none, []⟩,
  ⟨some 28, .load 1 false (.tmp 27), none, []⟩,
  ⟨some 29, .len (.tmp 28), none, []⟩,
  ⟨some 30, .mv (.const (.int .i64 0)), none, []⟩]
def F.shrink_Smaller.r5 : List DOp := [
  ⟨some 31, .bin .lss (.tmp 30) (.tmp 29), none, []⟩]
def F.shrink_Smaller.r6 : List DOp := [
  ⟨some 32, .idxs 3 (.tmp 28) (.tmp 30), none, []⟩,
  ⟨some 33, .load 3 true (.tmp 32), none, []⟩,
  ⟨some 7, .alloc [.int .i64 0, .int .i64 0, .slice none 0 0], none, []⟩,
  ⟨none, .store 3 (.tmp 7) (.tmp 33), none, []⟩]
def F.shrink_Smaller.r7 : List DOp := [
  ⟨some 34, .mv (.tmp 5), none, []⟩,
  ⟨some 35, .load 4 true (.tmp 2), none, []⟩,
  ⟨some 36, .load 3 true (.tmp 7), none, []⟩,
  ⟨some 37, .faddr 3 (.tmp 2), none, []⟩,
  ⟨some 38, .load 1 false (.tmp 37), none, []⟩,
  ⟨some 39, .faddr 0 (.tmp 3), none, []⟩,
  ⟨some 40, .load 1 false (.tmp 39), none, []⟩,
  ⟨some 41, .idxs 2 (.tmp 38) (.tmp 40), none, []⟩,
  ⟨some 42, .faddr 0 (.tmp 41), none, []⟩,
  ⟨some 43, .load 1 false (.tmp 42), none, []⟩,
  ⟨some 44, .call I.shrink_below [.tmp 35, .tmp 36, .tmp 43], none, []⟩,
  ⟨some 45, .append 3 40 (.tmp 34) (.tmp 44), none, []⟩,
  ⟨some 5, .mv (.tmp 45), none, []⟩]
def F.shrink_Smaller.r8 : List DOp := [
  ⟨some 46, .bin .add (.tmp 30) (.const (.int .i64 1)), none, []⟩,
  ⟨some 30, .mv (.tmp 46), none, []⟩]
def F.shrink_Smaller.L0 : ACode := .seq (.region F.shrink_Smaller.r5) (.seq (.cond (.tmp 31) (.skip) (.exit 0)) (.seq (.block 1 (.seq (.region F.shrink_Smaller.r6) (.draw F.shrink_Smaller.r7 []))) (.region F.shrink_Smaller.r8)))
def F.shrink_Smaller.r9 : List DOp := [
  ⟨some 47, .faddr 2 (.tmp 3), none, []⟩,
  ⟨some 48, .load 1 false (.tmp 47), none, []⟩,
  ⟨some 49, .len (.tmp 48), none, []⟩,
  ⟨some 50, .mv (.const (.int .i64 0)), none, []⟩]
def F.shrink_Smaller.r10 : List DOp := [
  ⟨some 51, .bin .lss (.tmp 50) (.tmp 49), none, []⟩]
def F.shrink_Smaller.r11 : List DOp := [
  ⟨some 52, .mv (.tmp 50), none, []⟩,
  ⟨some 53, .idxs 3 (.tmp 48) (.tmp 50), none, []⟩,
  ⟨some 54, .load 3 true (.tmp 53), none, []⟩,
  ⟨some 9, .alloc [.int .i64 0, .int .i64 0, .slice none 0 0], none, []⟩,
  ⟨some 8, .mv (.tmp 52), none, []⟩,
  ⟨none, .store 3 (.tmp 9) (.tmp 54), none, []⟩]
def F.shrink_Smaller.r12 : List DOp := [
  ⟨some 55, .load 4 true (.tmp 2), none, []⟩,
  ⟨some 56, .load 3 true (.tmp 9), none, []⟩,
  ⟨some 57, .call I.shrink_Smaller [.tmp 55, .tmp 56], none, []⟩,
  ⟨some 58, .len (.tmp 57), none, []⟩,
  ⟨some 59, .mv (.const (.int .i64 0)), none, []⟩]
def F.shrink_Smaller.r13 : List DOp := [
  ⟨some 60, .bin .lss (.tmp 59) (.tmp 58), none, []⟩]
def F.shrink_Smaller.r14 : List DOp := [
  ⟨some 61, .idxs 3 (.tmp 57) (.tmp 59), none, []⟩,
  ⟨some 62, .load 3 true (.tmp 61), none, []⟩,
  ⟨some 11, .alloc [.int .i64 0, .int .i64 0, .slice none 0 0], none, []⟩,
  ⟨none, .store 3 (.tmp 11) (.tmp 62), none, []⟩]
def F.shrink_Smaller.r15 : List DOp := [
  ⟨some 63, .load 3 true (.tmp 3), none, []⟩,
  ⟨some 64, .call I.tree_Clone [.tmp 63], none, []⟩,
  ⟨some 12, .alloc [.int .i64 0, .int .i64 0, .slice none 0 0], none, []⟩,
  ⟨none, .store 3 (.tmp 12) (.tmp 64), none, []⟩]
def F.shrink_Smaller.r16 : List DOp := [
  ⟨some 65, .faddr 2 (.tmp 12), none, []⟩,
  ⟨some 66, .load 1 false (.tmp 65), none, []⟩,
  ⟨some 67, .mv (.tmp 8), none, []⟩,
  ⟨some 68, .load 3 true (.tmp 11), none, []⟩,
  ⟨some 69, .idxs 3 (.tmp 66) (.tmp 67), none, []⟩,
  ⟨none, .store 3 (.tmp 69) (.tmp 68), none, []⟩]
def F.shrink_Smaller.r17 : List DOp := [
  ⟨some 70, .mv (.tmp 5), none, []⟩,
  ⟨some 71, .load 3 true (.tmp 12), none, []⟩,
  ⟨some 72, .bslice 3 1 [.int .i64 0, .int .i64 0, .slice none 0 0] [(0, 3, .tmp 71)], none, []⟩,
  ⟨some 73, .append 3 40 (.tmp 70) (.tmp 72), none, []⟩,
  ⟨some 5, .mv (.tmp 73), none, []⟩]
def F.shrink_Smaller.r18 : List DOp := [
  ⟨some 74, .bin .add (.tmp 59) (.const (.int .i64 1)), none, []⟩,
  ⟨some 59, .mv (.tmp 74), none, []⟩]
def F.shrink_Smaller.L2 : ACode := .seq (.region F.shrink_Smaller.r13) (.seq (.cond (.tmp 60) (.skip) (.exit 4)) (.seq (.block 5 (.seq (.region F.shrink_Smaller.r14) (.seq (.region F.shrink_Smaller.r15) (.seq (.region F.shrink_Smaller.r16) (.region F.shrink_Smaller.r17))))) (.region F.shrink_Smaller.r18)))
def F.shrink_Smaller.r19 : List DOp := [
  ⟨some 75, .bin .add (.tmp 50) (.const (.int .i64 1)), none, []⟩,
  ⟨some 50, .mv (.tmp 75), none, []⟩]
def F.shrink_Smaller.L1 : ACode := .seq (.region F.shrink_Smaller.r10) (.seq (.cond (.tmp 51) (.skip) (.exit 2)) (.seq (.block 3 (.seq (.region F.shrink_Smaller.r11) (.seq (.region F.shrink_Smaller.r12) (.block 4 (.loop F.shrink_Smaller.L2))))) (.region F.shrink_Smaller.r19)))
def F.shrink_Smaller.r20 : List DOp := [
  ⟨some 76, .mv (.tmp 5), none, []⟩,
  ⟨some 4, .mv (.tmp 76), none, []⟩]
def F.shrink_Smaller.c : ACode := .seq (.region F.shrink_Smaller.r0) (.seq (.seq (.region F.shrink_Smaller.r1) (.cond (.tmp 26) (.seq (.region F.shrink_Smaller.r2) (.ret)) (.skip))) (.seq (.region F.shrink_Smaller.r3) (.seq (.seq (.region F.shrink_Smaller.r4) (.block 0 (.loop F.shrink_Smaller.L0))) (.seq (.seq (.region F.shrink_Smaller.r9) (.block 2 (.loop F.shrink_Smaller.L1))) (.seq (.region F.shrink_Smaller.r20) (.ret))))))
def F.shrink_Smaller : AFunc := ⟨F.shrink_Smaller.c, [.tmp 4]⟩
/-! parlance/shrink.Tree -/
def F.shrink_Tree.r0 : List DOp := [
  ⟨some 3, .box (.tmp 0), none, []⟩,
  ⟨some 4, .box (.tmp 1), none, []⟩,
  ⟨some 6, .alloc [.int .i64 0, .int .i64 0, .slice none 0 0], none, []⟩,
  ⟨some 7, .mv (.const (.int .i64 0)), none, []⟩]
def F.shrink_Tree.r1 : List DOp := [
  ⟨some 12, .load 4 true (.tmp 3), none, []⟩,
  ⟨some 13, .load 3 true (.tmp 4), none, []⟩,
  ⟨some 14, .call I.tree_Check [.tmp 12, .tmp 13], none, []⟩,
  ⟨some 8, .mv (.tmp 14), none, []⟩]
def F.shrink_Tree.r2 : List DOp := [
  ⟨some 15, .mv (.tmp 8), none, []⟩,
  ⟨some 16, .bin .neq (.tmp 15) (.const (.int .i64 0)), none, []⟩]
def F.shrink_Tree.r3 : List DOp := [
  ⟨some 17, .build [.int .i64 0, .int .i64 0, .slice none 0 0] [], none, []⟩,
  ⟨some 18, .mv (.tmp 8), none, []⟩,
  ⟨none, .store 3 (.tmp 6) (.tmp 17), none, []⟩,
  ⟨some 7, .mv (.tmp 18), none, []⟩]
def F.shrink_Tree.r4 : List DOp := [
  ⟨some 19, .load 3 true (.tmp 4), none, []⟩,
  ⟨some 20, .call I.tree_Size [.tmp 19], none, []⟩,
  ⟨some 21, .bin .gtr (.tmp 20) (.const (.int .i64 60)), none, []⟩]
def F.shrink_Tree.r5 : List DOp := [
  ⟨some 22, .build [.int .i64 0, .int .i64 0, .slice none 0 0] [], none, []⟩,
  ⟨none, .store 3 (.tmp 6) (.tmp 22), none, []⟩,
  ⟨some 7, .mv (.const (.int .i64 2)), none, []⟩]
def F.shrink_Tree.r6 : List DOp := [
  ⟨some 23, .mv (.tmp 2), none, []⟩,
  ⟨some 24, .load 3 true (.tmp 4), none, []⟩,
  ⟨some 25, .call I.tree_Clone [.tmp 24], none, []⟩,
  ⟨some 26, .callv (.tmp 23) [.tmp 25], none, []⟩,
  ⟨some 27, .un .not (.tmp 26), none, []⟩]
def F.shrink_Tree.r7 : List DOp := [
  ⟨some 28, .build [.int .i64 0, .int .i64 0, .slice none 0 0] [], none, []⟩,
  ⟨none, .store 3 (.tmp 6) (.tmp 28), none, []⟩,
  ⟨some 7, .mv (.const (.int .i64 7)), none, []⟩]
def F.shrink_Tree.r8 : List DOp := [
  ⟨some 29, .load 3 true (.tmp 4), none, []⟩,
  ⟨some 30, .call I.tree_Clone [.tmp 29], none, []⟩,
  ⟨none, .store 3 (.tmp 4) (.tmp 30), none, []⟩]
def F.shrink_Tree.r9 : List DOp := [
  ⟨some 9, .mv (.const (.bool true)), none, []⟩]
def F.shrink_Tree.r10 : List DOp := [
  ⟨some 31, .mv (.tmp 9), none, []⟩]
def F.shrink_Tree.r11 : List DOp := [
  ⟨some 9, .mv (.const (.bool false)), none, []⟩]
def F.shrink_Tree.r12 : List DOp := [
  ⟨some 32, .load 4 true (.tmp 3), none, []⟩,
  ⟨some 33, .load 3 true (.tmp 4), none, []⟩,
  ⟨some 34, .call I.shrink_Smaller [.tmp 32, .tmp 33], none, []⟩,
  ⟨some 35, .len (.tmp 34), none, []⟩,
  ⟨some 36, .mv (.const (.int .i64 0)), none, []⟩]
def F.shrink_Tree.r13 : List DOp := [
  ⟨some 37, .bin .lss (.tmp 36) (.tmp 35), none, []⟩]
def F.shrink_Tree.r14 : List DOp := [
  ⟨some 38, .idxs 3 (.tmp 34) (.tmp 36), none, []⟩,
  ⟨some 39, .load 3 true (.tmp 38), none, []⟩,
  ⟨some 11, .alloc [.int .i64 0, .int .i64 0, .slice none 0 0], none, []⟩,
  ⟨none, .store 3 (.tmp 11) (.tmp 39), none, []⟩]
def F.shrink_Tree.r15 : List DOp := [
  ⟨some 40, .mv (.tmp 2), none, []⟩,
  ⟨some 41, .load 3 true (.tmp 11), none, []⟩,
  ⟨some 42, .call I.tree_Clone [.tmp 41], none, []⟩,
  ⟨some 43, .callv (.tmp 40) [.tmp 42], none, []⟩]
def F.shrink_Tree.r16 : List DOp := [
  ⟨some 44, .load 3 true (.tmp 11), none, []⟩,
  ⟨none, .store 3 (.tmp 4) (.tmp 44), none, []⟩,
  ⟨some 9, .mv (.const (.bool true)), none, []⟩]
def F.shrink_Tree.r17 : List DOp := [
  ⟨some 45, .bin .add (.tmp 36) (.const (.int .i64 1)), none, []⟩,
  ⟨some 36, .mv (.tmp 45), none, []⟩]
def F.shrink_Tree.L1 : ACode := .seq (.region F.shrink_Tree.r13) (.seq (.cond (.tmp 37) (.skip) (.exit 2)) (.seq (.block 3 (.seq (.region F.shrink_Tree.r14) (.seq (.region F.shrink_Tree.r15) (.cond (.tmp 43) (.seq (.region F.shrink_Tree.r16) (.exit 2)) (.skip))))) (.region F.shrink_Tree.r17)))
def F.shrink_Tree.L0 : ACode := .seq (.seq (.region F.shrink_Tree.r10) (.cond (.tmp 31) (.skip) (.exit 0))) (.block 1 (.seq (.region F.shrink_Tree.r11) (.seq (.region F.shrink_Tree.r12) (.block 2 (.loop F.shrink_Tree.L1)))))
def F.shrink_Tree.r18 : List DOp := [
  ⟨some 46, .load 3 true (.tmp 4), none, []⟩,
  ⟨none, .store 3 (.tmp 6) (.tmp 46), none, []⟩,
  ⟨some 7, .mv (.const (.int .i64 0)), none, []⟩]
def F.shrink_Tree.c : ACode := .seq (.region F.shrink_Tree.r0) (.seq (.seq (.region F.shrink_Tree.r1) (.seq (.region F.shrink_Tree.r2) (.cond (.tmp 16) (.seq (.region F.shrink_Tree.r3) (.ret)) (.skip)))) (.seq (.seq (.region F.shrink_Tree.r4) (.cond (.tmp 21) (.seq (.region F.shrink_Tree.r5) (.ret)) (.skip))) (.seq (.seq (.region F.shrink_Tree.r6) (.cond (.tmp 27) (.seq (.region F.shrink_Tree.r7) (.ret)) (.skip))) (.seq (.region F.shrink_Tree.r8) (.seq (.seq (.region F.shrink_Tree.r9) (.block 0 (.loop F.shrink_Tree.L0))) (.seq (.region F.shrink_Tree.r18) (.ret)))))))
def F.shrink_Tree : AFunc := ⟨F.shrink_Tree.c, [.cell 6 3 true, .tmp 7]⟩
/-! parlance/shrink.below -/
def F.shrink_below.r0 : List DOp := [
  ⟨some 3, .box (.tmp 0), none, []⟩,
  ⟨some 4, .box (.tmp 1), none, []⟩,
  ⟨some 6, .mv (.const (.slice none 0 0)), none, []⟩]
def F.shrink_below.r1 : List DOp := [
  ⟨some 10, .faddr 0 (.tmp 4), none, []⟩,
  ⟨some 11, .load 1 false (.tmp 10), none, []⟩,
  ⟨some 12, .bin .lss (.tmp 11) (.const (.int .i64 0)), none, []⟩]
def F.shrink_below.r2 : List DOp := [
  ⟨some 6, .mv (.const (.slice none 0 0)), none, []⟩]
def F.shrink_below.r3 : List DOp := [
  ⟨some 7, .mv (.const (.slice none 0 0)), none, []⟩]
def F.shrink_below.r4 : List DOp := [
  ⟨some 13, .faddr 3 (.tmp 3), none, []⟩,
  ⟨some 14, .load 1 false (.tmp 13), none, []⟩,
  ⟨some 15, .faddr 0 (.tmp 4), none, []⟩,
  ⟨some 16, .load 1 false (.tmp 15), none, []⟩,
  ⟨some 17, .idxs 2 (.tmp 14) (.tmp 16), none, []⟩,
  ⟨some 18, .faddr 0 (.tmp 17), none, []⟩,
  ⟨some 19, .load 1 false (.tmp 18), none, []⟩,
  ⟨some 20, .mv (.tmp 2), none, []⟩,
  ⟨some 21, .bin .eql (.tmp 19) (.tmp 20), none, []⟩]
def F.shrink_below.r5 : List DOp := [
  ⟨some 22, .mv (.tmp 7), none, []⟩,
  ⟨some 23, .load 3 true (.tmp 4), none, []⟩,
  ⟨some 24, .call I.tree_Clone [.tmp 23], none, []⟩,
  ⟨some 25, .bslice 3 1 [.int .i64 0, .int .i64 0, .slice none 0 0] [(0, 3, .tmp 24)], none, []⟩,
  ⟨some 26, .append 3 40 (.tmp 22) (.tmp 25), none, []⟩,
  ⟨some 7, .mv (.tmp 26), none, []⟩]
def F.shrink_below.r6 : List DOp := [
  ⟨some 27, .faddr 2 (.tmp 4), none, []⟩,
  ⟨some 28, .load 1 false (.tmp 27), none, []⟩,
  ⟨some 29, .len (.tmp 28), none, []⟩,
  ⟨some 30, .mv (.const (.int .i64 0)), none, []⟩]
def F.shrink_below.r7 : List DOp := [
  ⟨some 31, .bin .lss (.tmp 30) (.tmp 29), none, []⟩]
def F.shrink_below.r8 : List DOp := [
  ⟨some 32, .idxs 3 (.tmp 28) (.tmp 30), none, []⟩,
  ⟨some 33, .load 3 true (.tmp 32), none, []⟩,
  ⟨some 9, .alloc [.int .i64 0, .int .i64 0, .slice none 0 0], none, []⟩,
  ⟨none, .store 3 (.tmp 9) (.tmp 33), none, []⟩]
def F.shrink_below.r9 : List DOp := [
  ⟨some 34, .mv (.tmp 7), none, []⟩,
  ⟨some 35, .load 4 true (.tmp 3), none, []⟩,
  ⟨some 36, .load 3 true (.tmp 9), none, []⟩,
  ⟨some 37, .mv (.tmp 2), none, []⟩,
  ⟨some 38, .call I.shrink_below [.tmp 35, .tmp 36, .tmp 37], none, []⟩,
  ⟨some 39, .append 3 40 (.tmp 34) (.tmp 38), none, []⟩,
  ⟨some 7, .mv (.tmp 39), none, []⟩]
def F.shrink_below.r10 : List DOp := [
  ⟨some 40, .bin .add (.tmp 30) (.const (.int .i64 1)), none, []⟩,
  ⟨some 30, .mv (.tmp 40), none, []⟩]
def F.shrink_below.L0 : ACode := .seq (.region F.shrink_below.r7) (.seq (.cond (.tmp 31) (.skip) (.exit 0)) (.seq (.block 1 (.seq (.region F.shrink_below.r8) (.region F.shrink_below.r9))) (.region F.shrink_below.r10)))
def F.shrink_below.r11 : List DOp := [
  ⟨some 41, .mv (.tmp 7), none, []⟩,
  ⟨some 6, .mv (.tmp 41), none, []⟩]
def F.shrink_below.c : ACode := .seq (.region F.shrink_below.r0) (.seq (.seq (.region F.shrink_below.r1) (.cond (.tmp 12) (.seq (.region F.shrink_below.r2) (.ret)) (.skip))) (.seq (.region F.shrink_below.r3) (.seq (.seq (.region F.shrink_below.r4) (.cond (.tmp 21) (.region F.shrink_below.r5) (.skip))) (.seq (.seq (.region F.shrink_below.r6) (.block 0 (.loop F.shrink_below.L0))) (.seq (.region F.shrink_below.r11) (.ret))))))
def F.shrink_below : AFunc := ⟨F.shrink_below.c, [.tmp 6]⟩
end Go.Proofs.Ythgdobdhdfjhfaa
