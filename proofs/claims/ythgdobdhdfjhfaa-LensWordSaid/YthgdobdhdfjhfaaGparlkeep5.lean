/- The abstract code of package parlkeep5, written by wip/tools/gen.py from the translation. -/
import Derived.Test.YthgdobdhdfjhfaaI
namespace Go.Proofs.Ythgdobdhdfjhfaa
open Go Go.Ab
/-! parlance/parlkeep5.ShrinkTree -/
def F.parlkeep5_ShrinkTree.r0 : List DOp := [
  ⟨some 5, .box (.tmp 2), none, []⟩,
  ⟨some 6, .mv (.const (.bool false)), none, []⟩]
def F.parlkeep5_ShrinkTree.r1 : List DOp := [
  ⟨some 16, .mv (.tmp 0), none, []⟩,
  ⟨some 17, .call I.parlmake_Grammar [.tmp 16], none, []⟩,
  ⟨some 7, .alloc [.int .i64 0, .int .i64 0, .int .i64 0, .slice none 0 0], none, []⟩,
  ⟨none, .store 4 (.tmp 7) (.tmp 17), none, []⟩]
def F.parlkeep5_ShrinkTree.r2 : List DOp := [
  ⟨some 18, .call I.parlkeep5_plain [], none, []⟩,
  ⟨some 19, .build [.int .i64 0, .int .i64 0, .slice none 0 0] [(0, 1, .const (.int .i64 (-1))), (1, 1, .const (.int .i64 1))], none, []⟩,
  ⟨some 20, .build [.int .i64 0, .int .i64 0, .slice none 0 0] [(0, 1, .const (.int .i64 (-1)))], none, []⟩,
  ⟨some 21, .bslice 3 1 [.int .i64 0, .int .i64 0, .slice none 0 0] [(0, 3, .tmp 20)], none, []⟩,
  ⟨some 22, .build [.int .i64 0, .int .i64 0, .slice none 0 0] [(2, 1, .tmp 21)], none, []⟩,
  ⟨some 23, .bslice 3 2 [.int .i64 0, .int .i64 0, .slice none 0 0, .int .i64 0, .int .i64 0, .slice none 0 0] [(0, 3, .tmp 19), (3, 3, .tmp 22)], none, []⟩,
  ⟨some 24, .build [.int .i64 0, .int .i64 0, .slice none 0 0] [(0, 1, .const (.int .i64 1)), (2, 1, .tmp 23)], none, []⟩,
  ⟨some 25, .call I.shrink_Smaller [.tmp 18, .tmp 24], none, []⟩,
  ⟨some 8, .mv (.tmp 25), none, []⟩]
def F.parlkeep5_ShrinkTree.r3 : List DOp := [
  ⟨some 26, .mv (.tmp 8), none, []⟩,
  ⟨some 27, .len (.tmp 26), none, []⟩,
  ⟨some 28, .bin .neq (.tmp 27) (.const (.int .i64 1)), none, []⟩]
def F.parlkeep5_ShrinkTree.r4 : List DOp := [
  ⟨some 6, .mv (.const (.bool false)), none, []⟩]
def F.parlkeep5_ShrinkTree.r5 : List DOp := [
  ⟨some 30, .load 4 true (.tmp 7), none, []⟩,
  ⟨some 31, .mv (.tmp 1), none, []⟩,
  ⟨some 32, .call I.parlmake_Tree [.tmp 30, .tmp 31], none, []⟩,
  ⟨some 29, .mv (.tmp 32), none, []⟩,
  ⟨some 33, .extract (.tmp 29) 0, none, []⟩,
  ⟨some 34, .extract (.tmp 29) 1, none, []⟩,
  ⟨some 9, .alloc [.int .i64 0, .int .i64 0, .slice none 0 0], none, []⟩,
  ⟨none, .store 3 (.tmp 9) (.tmp 33), none, []⟩,
  ⟨some 10, .mv (.tmp 34), none, []⟩]
def F.parlkeep5_ShrinkTree.r6 : List DOp := [
  ⟨some 35, .mv (.tmp 10), none, []⟩,
  ⟨some 36, .un .not (.tmp 35), none, []⟩,
  ⟨some 37, .mv (.tmp 36), none, []⟩,
  ⟨some 38, .load 3 true (.tmp 9), (some (37, false)), []⟩,
  ⟨some 39, .call I.tree_Size [.tmp 38], (some (37, false)), []⟩,
  ⟨some 40, .bin .gtr (.tmp 39) (.const (.int .i64 60)), (some (37, false)), []⟩,
  ⟨some 41, .pick (.tmp 37) (.const (.bool true)) (.tmp 40), none, []⟩]
def F.parlkeep5_ShrinkTree.r7 : List DOp := [
  ⟨some 6, .mv (.const (.bool true)), none, []⟩]
def F.parlkeep5_ShrinkTree.r8 : List DOp := [
  ⟨some 42, .load 1 false (.tmp 5), none, []⟩,
  ⟨some 43, .call I.parlkeep5_below [.tmp 42, .const (.int .i64 4)], none, []⟩,
  ⟨none, .store 1 (.tmp 5) (.tmp 43), none, []⟩]
def F.parlkeep5_ShrinkTree.r9 : List DOp := [
  ⟨some 44, .mkfn (.func I.parlkeep5_ShrinkTree_1) [.tmp 5], none, []⟩,
  ⟨some 11, .mv (.tmp 44), none, []⟩]
def F.parlkeep5_ShrinkTree.r10 : List DOp := [
  ⟨some 46, .load 4 true (.tmp 7), none, []⟩,
  ⟨some 47, .load 3 true (.tmp 9), none, []⟩,
  ⟨some 48, .mv (.tmp 11), none, []⟩,
  ⟨some 49, .call I.shrink_Tree [.tmp 46, .tmp 47, .tmp 48], none, []⟩,
  ⟨some 45, .mv (.tmp 49), none, []⟩,
  ⟨some 50, .extract (.tmp 45) 0, none, []⟩,
  ⟨some 51, .extract (.tmp 45) 1, none, []⟩,
  ⟨some 12, .alloc [.int .i64 0, .int .i64 0, .slice none 0 0], none, []⟩,
  ⟨none, .store 3 (.tmp 12) (.tmp 50), none, []⟩,
  ⟨some 13, .mv (.tmp 51), none, []⟩]
def F.parlkeep5_ShrinkTree.r11 : List DOp := [
  ⟨some 52, .mv (.tmp 11), none, []⟩,
  ⟨some 53, .load 3 true (.tmp 9), none, []⟩,
  ⟨some 54, .callv (.tmp 52) [.tmp 53], none, []⟩,
  ⟨some 55, .un .not (.tmp 54), none, []⟩]
def F.parlkeep5_ShrinkTree.r12 : List DOp := [
  ⟨some 56, .mv (.tmp 13), none, []⟩,
  ⟨some 57, .bin .eql (.tmp 56) (.const (.int .i64 7)), none, []⟩,
  ⟨some 6, .mv (.tmp 57), none, []⟩]
def F.parlkeep5_ShrinkTree.r13 : List DOp := [
  ⟨some 58, .mv (.tmp 13), none, []⟩,
  ⟨some 59, .bin .neq (.tmp 58) (.const (.int .i64 0)), none, []⟩,
  ⟨some 60, .mv (.tmp 59), none, []⟩,
  ⟨some 61, .mv (.tmp 11), (some (60, false)), []⟩,
  ⟨some 62, .load 3 true (.tmp 12), (some (60, false)), []⟩,
  ⟨some 63, .callv (.tmp 61) [.tmp 62], (some (60, false)), []⟩,
  ⟨some 64, .un .not (.tmp 63), (some (60, false)), []⟩,
  ⟨some 65, .pick (.tmp 60) (.const (.bool true)) (.tmp 64), none, []⟩,
  ⟨some 66, .mv (.tmp 65), none, []⟩,
  ⟨some 67, .load 4 true (.tmp 7), (some (66, false)), []⟩,
  ⟨some 68, .load 3 true (.tmp 12), (some (66, false)), []⟩,
  ⟨some 69, .call I.tree_Check [.tmp 67, .tmp 68], (some (66, false)), []⟩,
  ⟨some 70, .bin .neq (.tmp 69) (.const (.int .i64 0)), (some (66, false)), []⟩,
  ⟨some 71, .pick (.tmp 66) (.const (.bool true)) (.tmp 70), none, []⟩,
  ⟨some 72, .mv (.tmp 71), none, []⟩,
  ⟨some 73, .faddr 3 (.tmp 7), (some (72, false)), []⟩,
  ⟨some 74, .load 1 false (.tmp 73), (some (72, false)), []⟩,
  ⟨some 75, .faddr 0 (.tmp 12), (some (72, false)), []⟩,
  ⟨some 76, .load 1 false (.tmp 75), (some (72, false)), []⟩,
  ⟨some 77, .idxs 2 (.tmp 74) (.tmp 76), (some (72, false)), []⟩,
  ⟨some 78, .faddr 0 (.tmp 77), (some (72, false)), []⟩,
  ⟨some 79, .load 1 false (.tmp 78), (some (72, false)), []⟩,
  ⟨some 80, .faddr 2 (.tmp 7), (some (72, false)), []⟩,
  ⟨some 81, .load 1 false (.tmp 80), (some (72, false)), []⟩,
  ⟨some 82, .bin .neq (.tmp 79) (.tmp 81), (some (72, false)), []⟩,
  ⟨some 83, .pick (.tmp 72) (.const (.bool true)) (.tmp 82), none, []⟩,
  ⟨some 84, .mv (.tmp 83), none, []⟩,
  ⟨some 85, .load 3 true (.tmp 12), (some (84, false)), []⟩,
  ⟨some 86, .call I.tree_Size [.tmp 85], (some (84, false)), []⟩,
  ⟨some 87, .load 3 true (.tmp 9), (some (84, false)), []⟩,
  ⟨some 88, .call I.tree_Size [.tmp 87], (some (84, false)), []⟩,
  ⟨some 89, .bin .gtr (.tmp 86) (.tmp 88), (some (84, false)), []⟩,
  ⟨some 90, .pick (.tmp 84) (.const (.bool true)) (.tmp 89), none, []⟩]
def F.parlkeep5_ShrinkTree.r14 : List DOp := [
  ⟨some 6, .mv (.const (.bool false)), none, []⟩]
def F.parlkeep5_ShrinkTree.r15 : List DOp := [
  ⟨some 91, .load 4 true (.tmp 7), none, []⟩,
  ⟨some 92, .load 3 true (.tmp 12), none, []⟩,
  ⟨some 93, .call I.shrink_Smaller [.tmp 91, .tmp 92], none, []⟩,
  ⟨some 94, .len (.tmp 93), none, []⟩,
  ⟨some 95, .mv (.const (.int .i64 0)), none, []⟩]
def F.parlkeep5_ShrinkTree.r16 : List DOp := [
  ⟨some 96, .bin .lss (.tmp 95) (.tmp 94), none, []⟩]
def F.parlkeep5_ShrinkTree.r17 : List DOp := [
  ⟨some 97, .idxs 3 (.tmp 93) (.tmp 95), none, []⟩,
  ⟨some 98, .load 3 true (.tmp 97), none, []⟩,
  ⟨some 15, .alloc [.int .i64 0, .int .i64 0, .slice none 0 0], none, []⟩,
  ⟨none, .store 3 (.tmp 15) (.tmp 98), none, []⟩]
def F.parlkeep5_ShrinkTree.r18 : List DOp := [
  ⟨some 99, .mv (.tmp 11), none, []⟩,
  ⟨some 100, .load 3 true (.tmp 15), none, []⟩,
  ⟨some 101, .callv (.tmp 99) [.tmp 100], none, []⟩,
  ⟨some 102, .mv (.tmp 101), none, []⟩,
  ⟨some 103, .load 3 true (.tmp 15), (some (102, false)), []⟩,
  ⟨some 104, .call I.tree_Size [.tmp 103], (some (102, false)), []⟩,
  ⟨some 105, .load 3 true (.tmp 12), (some (102, false)), []⟩,
  ⟨some 106, .call I.tree_Size [.tmp 105], (some (102, false)), []⟩,
  ⟨some 107, .bin .geq (.tmp 104) (.tmp 106), (some (102, false)), []⟩,
  ⟨some 108, .pick (.tmp 102) (.const (.bool true)) (.tmp 107), none, []⟩,
  ⟨some 109, .mv (.tmp 108), none, []⟩,
  ⟨some 110, .load 4 true (.tmp 7), (some (109, false)), []⟩,
  ⟨some 111, .load 3 true (.tmp 15), (some (109, false)), []⟩,
  ⟨some 112, .call I.tree_Check [.tmp 110, .tmp 111], (some (109, false)), []⟩,
  ⟨some 113, .bin .neq (.tmp 112) (.const (.int .i64 0)), (some (109, false)), []⟩,
  ⟨some 114, .pick (.tmp 109) (.const (.bool true)) (.tmp 113), none, []⟩]
def F.parlkeep5_ShrinkTree.r19 : List DOp := [
  ⟨some 6, .mv (.const (.bool false)), none, []⟩]
def F.parlkeep5_ShrinkTree.r20 : List DOp := [
  ⟨some 115, .bin .add (.tmp 95) (.const (.int .i64 1)), none, []⟩,
  ⟨some 95, .mv (.tmp 115), none, []⟩]
def F.parlkeep5_ShrinkTree.L0 : ACode := .seq (.region F.parlkeep5_ShrinkTree.r16) (.seq (.cond (.tmp 96) (.skip) (.exit 0)) (.seq (.block 1 (.seq (.region F.parlkeep5_ShrinkTree.r17) (.seq (.draw F.parlkeep5_ShrinkTree.r18 [(6, 5)]) (.cond (.tmp 114) (.seq (.region F.parlkeep5_ShrinkTree.r19) (.ret)) (.skip))))) (.region F.parlkeep5_ShrinkTree.r20)))
def F.parlkeep5_ShrinkTree.r21 : List DOp := [
  ⟨some 6, .mv (.const (.bool true)), none, []⟩]
def F.parlkeep5_ShrinkTree.c : ACode := .seq (.region F.parlkeep5_ShrinkTree.r0) (.seq (.region F.parlkeep5_ShrinkTree.r1) (.seq (.seq (.region F.parlkeep5_ShrinkTree.r2) (.seq (.region F.parlkeep5_ShrinkTree.r3) (.cond (.tmp 28) (.seq (.region F.parlkeep5_ShrinkTree.r4) (.ret)) (.skip)))) (.seq (.region F.parlkeep5_ShrinkTree.r5) (.seq (.seq (.region F.parlkeep5_ShrinkTree.r6) (.cond (.tmp 41) (.seq (.region F.parlkeep5_ShrinkTree.r7) (.ret)) (.skip))) (.seq (.region F.parlkeep5_ShrinkTree.r8) (.seq (.region F.parlkeep5_ShrinkTree.r9) (.seq (.region F.parlkeep5_ShrinkTree.r10) (.seq (.seq (.region F.parlkeep5_ShrinkTree.r11) (.cond (.tmp 55) (.seq (.region F.parlkeep5_ShrinkTree.r12) (.ret)) (.skip))) (.seq (.seq (.draw F.parlkeep5_ShrinkTree.r13 [(29, 28)]) (.cond (.tmp 90) (.seq (.region F.parlkeep5_ShrinkTree.r14) (.ret)) (.skip))) (.seq (.seq (.region F.parlkeep5_ShrinkTree.r15) (.block 0 (.loop F.parlkeep5_ShrinkTree.L0))) (.seq (.region F.parlkeep5_ShrinkTree.r21) (.ret))))))))))))
def F.parlkeep5_ShrinkTree : AFunc := ⟨F.parlkeep5_ShrinkTree.c, [.tmp 6]⟩
/-! parlance/parlkeep5.CompareSides -/
def F.parlkeep5_CompareSides.r0 : List DOp := [
  ⟨some 6, .mv (.const (.bool false)), none, []⟩]
def F.parlkeep5_CompareSides.r1 : List DOp := [
  ⟨some 26, .mv (.tmp 0), none, []⟩,
  ⟨some 27, .call I.parlmake_Grammar [.tmp 26], none, []⟩,
  ⟨some 28, .mv (.tmp 1), none, []⟩,
  ⟨some 29, .call I.parlmake_Grammar [.tmp 28], none, []⟩,
  ⟨some 7, .alloc [.int .i64 0, .int .i64 0, .int .i64 0, .slice none 0 0], none, []⟩,
  ⟨some 8, .alloc [.int .i64 0, .int .i64 0, .int .i64 0, .slice none 0 0], none, []⟩,
  ⟨none, .store 4 (.tmp 7) (.tmp 27), none, []⟩,
  ⟨none, .store 4 (.tmp 8) (.tmp 29), none, []⟩]
def F.parlkeep5_CompareSides.r2 : List DOp := [
  ⟨some 30, .faddr 0 (.tmp 7), none, []⟩,
  ⟨some 31, .load 1 false (.tmp 30), none, []⟩,
  ⟨some 32, .faddr 0 (.tmp 8), none, []⟩,
  ⟨none, .store 1 (.tmp 32) (.tmp 31), none, []⟩]
def F.parlkeep5_CompareSides.r3 : List DOp := [
  ⟨some 33, .faddr 3 (.tmp 8), none, []⟩,
  ⟨some 34, .load 1 false (.tmp 33), none, []⟩,
  ⟨some 35, .len (.tmp 34), none, []⟩,
  ⟨some 36, .mv (.const (.int .i64 0)), none, []⟩]
def F.parlkeep5_CompareSides.r4 : List DOp := [
  ⟨some 37, .bin .lss (.tmp 36) (.tmp 35), none, []⟩]
def F.parlkeep5_CompareSides.r5 : List DOp := [
  ⟨some 38, .idxs 2 (.tmp 34) (.tmp 36), none, []⟩,
  ⟨some 39, .load 2 true (.tmp 38), none, []⟩,
  ⟨some 10, .alloc [.int .i64 0, .slice none 0 0], none, []⟩,
  ⟨none, .store 2 (.tmp 10) (.tmp 39), none, []⟩]
def F.parlkeep5_CompareSides.r6 : List DOp := [
  ⟨some 40, .faddr 1 (.tmp 10), none, []⟩,
  ⟨some 41, .load 1 false (.tmp 40), none, []⟩,
  ⟨some 42, .len (.tmp 41), none, []⟩,
  ⟨some 43, .mv (.const (.int .i64 0)), none, []⟩]
def F.parlkeep5_CompareSides.r7 : List DOp := [
  ⟨some 44, .bin .lss (.tmp 43) (.tmp 42), none, []⟩]
def F.parlkeep5_CompareSides.r8 : List DOp := [
  ⟨some 45, .mv (.tmp 43), none, []⟩,
  ⟨some 46, .idxs 2 (.tmp 41) (.tmp 43), none, []⟩,
  ⟨some 47, .load 2 true (.tmp 46), none, []⟩,
  ⟨some 12, .alloc [.bool false, .int .i64 0], none, []⟩,
  ⟨some 11, .mv (.tmp 45), none, []⟩,
  ⟨none, .store 2 (.tmp 12) (.tmp 47), none, []⟩]
def F.parlkeep5_CompareSides.r9 : List DOp := [
  ⟨some 48, .faddr 0 (.tmp 12), none, []⟩,
  ⟨some 49, .load 1 false (.tmp 48), none, []⟩]
def F.parlkeep5_CompareSides.r10 : List DOp := [
  ⟨some 50, .faddr 1 (.tmp 10), none, []⟩,
  ⟨some 51, .load 1 false (.tmp 50), none, []⟩,
  ⟨some 52, .mv (.tmp 11), none, []⟩,
  ⟨some 53, .faddr 1 (.tmp 12), none, []⟩,
  ⟨some 54, .load 1 false (.tmp 53), none, []⟩,
  ⟨some 55, .faddr 0 (.tmp 7), none, []⟩,
  ⟨some 56, .load 1 false (.tmp 55), none, []⟩,
  ⟨some 57, .bin .rem (.tmp 54) (.tmp 56), none, []⟩,
  ⟨some 58, .idxs 2 (.tmp 51) (.tmp 52), none, []⟩,
  ⟨some 59, .faddr 1 (.tmp 58), none, []⟩,
  ⟨none, .store 1 (.tmp 59) (.tmp 57), none, []⟩]
def F.parlkeep5_CompareSides.r11 : List DOp := [
  ⟨some 60, .bin .add (.tmp 43) (.const (.int .i64 1)), none, []⟩,
  ⟨some 43, .mv (.tmp 60), none, []⟩]
def F.parlkeep5_CompareSides.L1 : ACode := .seq (.region F.parlkeep5_CompareSides.r7) (.seq (.cond (.tmp 44) (.skip) (.exit 2)) (.seq (.block 3 (.seq (.region F.parlkeep5_CompareSides.r8) (.seq (.region F.parlkeep5_CompareSides.r9) (.cond (.tmp 49) (.draw F.parlkeep5_CompareSides.r10 []) (.skip))))) (.region F.parlkeep5_CompareSides.r11)))
def F.parlkeep5_CompareSides.r12 : List DOp := [
  ⟨some 61, .bin .add (.tmp 36) (.const (.int .i64 1)), none, []⟩,
  ⟨some 36, .mv (.tmp 61), none, []⟩]
def F.parlkeep5_CompareSides.L0 : ACode := .seq (.region F.parlkeep5_CompareSides.r4) (.seq (.cond (.tmp 37) (.skip) (.exit 0)) (.seq (.block 1 (.seq (.region F.parlkeep5_CompareSides.r5) (.seq (.region F.parlkeep5_CompareSides.r6) (.block 2 (.loop F.parlkeep5_CompareSides.L1))))) (.region F.parlkeep5_CompareSides.r12)))
def F.parlkeep5_CompareSides.r13 : List DOp := [
  ⟨some 62, .faddr 3 (.tmp 8), none, []⟩,
  ⟨some 63, .load 1 false (.tmp 62), none, []⟩,
  ⟨some 64, .call I.parlkeep5_distinct [.tmp 63], none, []⟩,
  ⟨some 65, .faddr 3 (.tmp 8), none, []⟩,
  ⟨none, .store 1 (.tmp 65) (.tmp 64), none, []⟩]
def F.parlkeep5_CompareSides.r14 : List DOp := [
  ⟨some 67, .call I.parlkeep5_plain [], none, []⟩,
  ⟨some 68, .build [.int .i64 0, .int .i64 0, .int .i64 0, .slice none 0 0] [(0, 1, .const (.int .i64 2)), (1, 1, .const (.int .i64 1))], none, []⟩,
  ⟨some 69, .call I.compare_Least [.tmp 67, .tmp 68, .const (.int .i64 2)], none, []⟩,
  ⟨some 66, .mv (.tmp 69), none, []⟩,
  ⟨some 70, .extract (.tmp 66) 0, none, []⟩,
  ⟨some 71, .extract (.tmp 66) 1, none, []⟩,
  ⟨some 72, .extract (.tmp 66) 2, none, []⟩,
  ⟨some 13, .mv (.tmp 70), none, []⟩,
  ⟨some 14, .mv (.tmp 71), none, []⟩,
  ⟨some 15, .mv (.tmp 72), none, []⟩]
def F.parlkeep5_CompareSides.r15 : List DOp := [
  ⟨some 73, .mv (.tmp 15), none, []⟩,
  ⟨some 74, .bin .neq (.tmp 73) (.const (.int .i64 0)), none, []⟩,
  ⟨some 75, .mv (.tmp 74), none, []⟩,
  ⟨some 76, .mv (.tmp 14), (some (75, false)), []⟩,
  ⟨some 77, .bin .neq (.tmp 76) (.const (.int .i64 1)), (some (75, false)), []⟩,
  ⟨some 78, .pick (.tmp 75) (.const (.bool true)) (.tmp 77), none, []⟩,
  ⟨some 79, .mv (.tmp 78), none, []⟩,
  ⟨some 80, .mv (.tmp 13), (some (79, false)), []⟩,
  ⟨some 81, .bslice 1 1 [.int .i64 0] [(0, 1, .const (.int .i64 0))], (some (79, false)), []⟩,
  ⟨some 82, .call I.slices_Equal_int_int [.tmp 80, .tmp 81], (some (79, false)), []⟩,
  ⟨some 83, .un .not (.tmp 82), (some (79, false)), []⟩,
  ⟨some 84, .pick (.tmp 79) (.const (.bool true)) (.tmp 83), none, []⟩]
def F.parlkeep5_CompareSides.r16 : List DOp := [
  ⟨some 6, .mv (.const (.bool false)), none, []⟩]
def F.parlkeep5_CompareSides.r17 : List DOp := [
  ⟨some 85, .mv (.tmp 2), none, []⟩,
  ⟨some 86, .call I.parlkeep5_below [.tmp 85, .const (.int .i64 4)], none, []⟩,
  ⟨some 2, .mv (.tmp 86), none, []⟩]
def F.parlkeep5_CompareSides.r18 : List DOp := [
  ⟨some 88, .load 4 true (.tmp 7), none, []⟩,
  ⟨some 89, .load 4 true (.tmp 8), none, []⟩,
  ⟨some 90, .mv (.tmp 2), none, []⟩,
  ⟨some 91, .call I.compare_Least [.tmp 88, .tmp 89, .tmp 90], none, []⟩,
  ⟨some 87, .mv (.tmp 91), none, []⟩,
  ⟨some 92, .extract (.tmp 87) 0, none, []⟩,
  ⟨some 93, .extract (.tmp 87) 1, none, []⟩,
  ⟨some 94, .extract (.tmp 87) 2, none, []⟩,
  ⟨some 16, .mv (.tmp 92), none, []⟩,
  ⟨some 17, .mv (.tmp 93), none, []⟩,
  ⟨some 18, .mv (.tmp 94), none, []⟩]
def F.parlkeep5_CompareSides.r19 : List DOp := [
  ⟨some 96, .load 4 true (.tmp 8), none, []⟩,
  ⟨some 97, .load 4 true (.tmp 7), none, []⟩,
  ⟨some 98, .mv (.tmp 2), none, []⟩,
  ⟨some 99, .call I.compare_Least [.tmp 96, .tmp 97, .tmp 98], none, []⟩,
  ⟨some 95, .mv (.tmp 99), none, []⟩,
  ⟨some 100, .extract (.tmp 95) 0, none, []⟩,
  ⟨some 101, .extract (.tmp 95) 1, none, []⟩,
  ⟨some 102, .extract (.tmp 95) 2, none, []⟩,
  ⟨some 19, .mv (.tmp 100), none, []⟩,
  ⟨some 20, .mv (.tmp 101), none, []⟩,
  ⟨some 21, .mv (.tmp 102), none, []⟩]
def F.parlkeep5_CompareSides.r20 : List DOp := [
  ⟨some 103, .mv (.tmp 18), none, []⟩,
  ⟨some 104, .mv (.tmp 21), none, []⟩,
  ⟨some 105, .bin .neq (.tmp 103) (.tmp 104), none, []⟩,
  ⟨some 106, .mv (.tmp 105), none, []⟩,
  ⟨some 107, .mv (.tmp 18), (some (106, false)), []⟩,
  ⟨some 108, .bin .neq (.tmp 107) (.const (.int .i64 0)), (some (106, false)), []⟩,
  ⟨some 109, .mv (.tmp 108), (some (106, false)), []⟩,
  ⟨some 110, .mv (.tmp 18), (some (109, true)), []⟩,
  ⟨some 111, .bin .neq (.tmp 110) (.const (.int .i64 5)), (some (109, true)), []⟩,
  ⟨some 112, .pick (.tmp 109) (.tmp 111) (.const (.bool false)), (some (106, false)), []⟩,
  ⟨some 113, .pick (.tmp 106) (.const (.bool true)) (.tmp 112), none, []⟩]
def F.parlkeep5_CompareSides.r21 : List DOp := [
  ⟨some 6, .mv (.const (.bool false)), none, []⟩]
def F.parlkeep5_CompareSides.r22 : List DOp := [
  ⟨some 114, .mv (.tmp 18), none, []⟩,
  ⟨some 115, .bin .eql (.tmp 114) (.const (.int .i64 5)), none, []⟩]
def F.parlkeep5_CompareSides.r23 : List DOp := [
  ⟨some 116, .mv (.tmp 17), none, []⟩,
  ⟨some 117, .bin .eql (.tmp 116) (.const (.int .i64 0)), none, []⟩,
  ⟨some 118, .mv (.tmp 117), none, []⟩,
  ⟨some 119, .mv (.tmp 20), (some (118, true)), []⟩,
  ⟨some 120, .bin .eql (.tmp 119) (.const (.int .i64 0)), (some (118, true)), []⟩,
  ⟨some 121, .pick (.tmp 118) (.tmp 120) (.const (.bool false)), none, []⟩,
  ⟨some 6, .mv (.tmp 121), none, []⟩]
def F.parlkeep5_CompareSides.r24 : List DOp := [
  ⟨some 123, .load 4 true (.tmp 7), none, []⟩,
  ⟨some 124, .mv (.tmp 16), none, []⟩,
  ⟨some 125, .call I.mean_Accepts [.tmp 123, .tmp 124], none, []⟩,
  ⟨some 122, .mv (.tmp 125), none, []⟩,
  ⟨some 126, .extract (.tmp 122) 0, none, []⟩,
  ⟨some 127, .extract (.tmp 122) 1, none, []⟩,
  ⟨some 22, .mv (.tmp 126), none, []⟩,
  ⟨some 23, .mv (.tmp 127), none, []⟩]
def F.parlkeep5_CompareSides.r25 : List DOp := [
  ⟨some 129, .load 4 true (.tmp 8), none, []⟩,
  ⟨some 130, .mv (.tmp 16), none, []⟩,
  ⟨some 131, .call I.mean_Accepts [.tmp 129, .tmp 130], none, []⟩,
  ⟨some 128, .mv (.tmp 131), none, []⟩,
  ⟨some 132, .extract (.tmp 128) 0, none, []⟩,
  ⟨some 133, .extract (.tmp 128) 1, none, []⟩,
  ⟨some 24, .mv (.tmp 132), none, []⟩,
  ⟨some 25, .mv (.tmp 133), none, []⟩]
def F.parlkeep5_CompareSides.r26 : List DOp := [
  ⟨some 134, .mv (.tmp 16), none, []⟩,
  ⟨some 135, .mv (.tmp 19), none, []⟩,
  ⟨some 136, .call I.slices_Equal_int_int [.tmp 134, .tmp 135], none, []⟩,
  ⟨some 137, .mv (.tmp 136), none, []⟩,
  ⟨some 138, .mv (.tmp 17), (some (137, true)), []⟩,
  ⟨some 139, .mv (.tmp 20), (some (137, true)), []⟩,
  ⟨some 140, .bin .neq (.tmp 138) (.tmp 139), (some (137, true)), []⟩,
  ⟨some 141, .pick (.tmp 137) (.tmp 140) (.const (.bool false)), none, []⟩,
  ⟨some 142, .mv (.tmp 141), none, []⟩,
  ⟨some 143, .mv (.tmp 22), (some (142, true)), []⟩,
  ⟨some 144, .mv (.tmp 24), (some (142, true)), []⟩,
  ⟨some 145, .eq true .bool (.tmp 143) (.tmp 144), (some (142, true)), []⟩,
  ⟨some 146, .pick (.tmp 142) (.tmp 145) (.const (.bool false)), none, []⟩,
  ⟨some 147, .mv (.tmp 146), none, []⟩,
  ⟨some 148, .mv (.tmp 17), (some (147, true)), []⟩,
  ⟨some 149, .bin .eql (.tmp 148) (.const (.int .i64 1)), (some (147, true)), []⟩,
  ⟨some 150, .mv (.tmp 22), (some (147, true)), []⟩,
  ⟨some 151, .eq false .bool (.tmp 149) (.tmp 150), (some (147, true)), []⟩,
  ⟨some 152, .pick (.tmp 147) (.tmp 151) (.const (.bool false)), none, []⟩,
  ⟨some 6, .mv (.tmp 152), none, []⟩]
def F.parlkeep5_CompareSides.c : ACode := .seq (.region F.parlkeep5_CompareSides.r0) (.seq (.region F.parlkeep5_CompareSides.r1) (.seq (.region F.parlkeep5_CompareSides.r2) (.seq (.seq (.region F.parlkeep5_CompareSides.r3) (.block 0 (.loop F.parlkeep5_CompareSides.L0))) (.seq (.region F.parlkeep5_CompareSides.r13) (.seq (.seq (.region F.parlkeep5_CompareSides.r14) (.seq (.region F.parlkeep5_CompareSides.r15) (.cond (.tmp 84) (.seq (.region F.parlkeep5_CompareSides.r16) (.ret)) (.skip)))) (.seq (.region F.parlkeep5_CompareSides.r17) (.seq (.region F.parlkeep5_CompareSides.r18) (.seq (.region F.parlkeep5_CompareSides.r19) (.seq (.seq (.region F.parlkeep5_CompareSides.r20) (.cond (.tmp 113) (.seq (.region F.parlkeep5_CompareSides.r21) (.ret)) (.skip))) (.seq (.seq (.region F.parlkeep5_CompareSides.r22) (.cond (.tmp 115) (.seq (.region F.parlkeep5_CompareSides.r23) (.ret)) (.skip))) (.seq (.region F.parlkeep5_CompareSides.r24) (.seq (.region F.parlkeep5_CompareSides.r25) (.seq (.region F.parlkeep5_CompareSides.r26) (.ret))))))))))))))
def F.parlkeep5_CompareSides : AFunc := ⟨F.parlkeep5_CompareSides.c, [.tmp 6]⟩
/-! parlance/parlkeep5.CompareSame -/
def F.parlkeep5_CompareSame.r0 : List DOp := [
  ⟨some 4, .mv (.const (.bool false)), none, []⟩]
def F.parlkeep5_CompareSame.r1 : List DOp := [
  ⟨some 13, .mv (.tmp 0), none, []⟩,
  ⟨some 14, .call I.parlmake_Grammar [.tmp 13], none, []⟩,
  ⟨some 5, .alloc [.int .i64 0, .int .i64 0, .int .i64 0, .slice none 0 0], none, []⟩,
  ⟨none, .store 4 (.tmp 5) (.tmp 14), none, []⟩]
def F.parlkeep5_CompareSame.r2 : List DOp := [
  ⟨some 16, .call I.parlkeep5_plain [], none, []⟩,
  ⟨some 17, .build [.int .i64 0, .int .i64 0, .int .i64 0, .slice none 0 0] [(0, 1, .const (.int .i64 2)), (1, 1, .const (.int .i64 1))], none, []⟩,
  ⟨some 18, .call I.compare_Least [.tmp 16, .tmp 17, .const (.int .i64 2)], none, []⟩,
  ⟨some 15, .mv (.tmp 18), none, []⟩,
  ⟨some 19, .extract (.tmp 15) 0, none, []⟩,
  ⟨some 20, .extract (.tmp 15) 1, none, []⟩,
  ⟨some 21, .extract (.tmp 15) 2, none, []⟩,
  ⟨some 6, .mv (.tmp 19), none, []⟩,
  ⟨some 7, .mv (.tmp 20), none, []⟩,
  ⟨some 8, .mv (.tmp 21), none, []⟩]
def F.parlkeep5_CompareSame.r3 : List DOp := [
  ⟨some 22, .mv (.tmp 8), none, []⟩,
  ⟨some 23, .bin .neq (.tmp 22) (.const (.int .i64 0)), none, []⟩,
  ⟨some 24, .mv (.tmp 23), none, []⟩,
  ⟨some 25, .mv (.tmp 7), (some (24, false)), []⟩,
  ⟨some 26, .bin .neq (.tmp 25) (.const (.int .i64 1)), (some (24, false)), []⟩,
  ⟨some 27, .pick (.tmp 24) (.const (.bool true)) (.tmp 26), none, []⟩,
  ⟨some 28, .mv (.tmp 27), none, []⟩,
  ⟨some 29, .mv (.tmp 6), (some (28, false)), []⟩,
  ⟨some 30, .bslice 1 1 [.int .i64 0] [(0, 1, .const (.int .i64 0))], (some (28, false)), []⟩,
  ⟨some 31, .call I.slices_Equal_int_int [.tmp 29, .tmp 30], (some (28, false)), []⟩,
  ⟨some 32, .un .not (.tmp 31), (some (28, false)), []⟩,
  ⟨some 33, .pick (.tmp 28) (.const (.bool true)) (.tmp 32), none, []⟩]
def F.parlkeep5_CompareSame.r4 : List DOp := [
  ⟨some 4, .mv (.const (.bool false)), none, []⟩]
def F.parlkeep5_CompareSame.r5 : List DOp := [
  ⟨some 34, .load 4 true (.tmp 5), none, []⟩,
  ⟨some 9, .alloc [.int .i64 0, .int .i64 0, .int .i64 0, .slice none 0 0], none, []⟩,
  ⟨none, .store 4 (.tmp 9) (.tmp 34), none, []⟩]
def F.parlkeep5_CompareSame.r6 : List DOp := [
  ⟨some 35, .faddr 3 (.tmp 5), none, []⟩,
  ⟨some 36, .load 1 false (.tmp 35), none, []⟩,
  ⟨some 37, .call I.slices_Clone_api_Rule_api_Rule [.tmp 36], none, []⟩,
  ⟨some 38, .faddr 3 (.tmp 9), none, []⟩,
  ⟨none, .store 1 (.tmp 38) (.tmp 37), none, []⟩]
def F.parlkeep5_CompareSame.r7 : List DOp := [
  ⟨some 39, .faddr 3 (.tmp 9), none, []⟩,
  ⟨some 40, .load 1 false (.tmp 39), none, []⟩,
  ⟨some 41, .call I.slices_Reverse_api_Rule_api_Rule [.tmp 40], none, []⟩]
def F.parlkeep5_CompareSame.r8 : List DOp := [
  ⟨some 43, .load 4 true (.tmp 5), none, []⟩,
  ⟨some 44, .load 4 true (.tmp 9), none, []⟩,
  ⟨some 45, .mv (.tmp 1), none, []⟩,
  ⟨some 46, .call I.parlkeep5_below [.tmp 45, .const (.int .i64 4)], none, []⟩,
  ⟨some 47, .call I.compare_Least [.tmp 43, .tmp 44, .tmp 46], none, []⟩,
  ⟨some 42, .mv (.tmp 47), none, []⟩,
  ⟨some 48, .extract (.tmp 42) 0, none, []⟩,
  ⟨some 49, .extract (.tmp 42) 1, none, []⟩,
  ⟨some 50, .extract (.tmp 42) 2, none, []⟩,
  ⟨some 10, .mv (.tmp 48), none, []⟩,
  ⟨some 11, .mv (.tmp 49), none, []⟩,
  ⟨some 12, .mv (.tmp 50), none, []⟩]
def F.parlkeep5_CompareSame.r9 : List DOp := [
  ⟨some 51, .mv (.tmp 12), none, []⟩,
  ⟨some 52, .bin .eql (.tmp 51) (.const (.int .i64 5)), none, []⟩,
  ⟨some 53, .mv (.tmp 52), none, []⟩,
  ⟨some 54, .mv (.tmp 11), (some (53, true)), []⟩,
  ⟨some 55, .bin .eql (.tmp 54) (.const (.int .i64 0)), (some (53, true)), []⟩,
  ⟨some 56, .pick (.tmp 53) (.tmp 55) (.const (.bool false)), none, []⟩,
  ⟨some 4, .mv (.tmp 56), none, []⟩]
def F.parlkeep5_CompareSame.c : ACode := .seq (.region F.parlkeep5_CompareSame.r0) (.seq (.region F.parlkeep5_CompareSame.r1) (.seq (.seq (.region F.parlkeep5_CompareSame.r2) (.seq (.region F.parlkeep5_CompareSame.r3) (.cond (.tmp 33) (.seq (.region F.parlkeep5_CompareSame.r4) (.ret)) (.skip)))) (.seq (.region F.parlkeep5_CompareSame.r5) (.seq (.region F.parlkeep5_CompareSame.r6) (.seq (.region F.parlkeep5_CompareSame.r7) (.seq (.draw F.parlkeep5_CompareSame.r8 [(0, 3), (1, 3)]) (.seq (.region F.parlkeep5_CompareSame.r9) (.ret))))))))
def F.parlkeep5_CompareSame : AFunc := ⟨F.parlkeep5_CompareSame.c, [.tmp 4]⟩
/-! parlance/parlkeep5.LensLonger -/
def F.parlkeep5_LensLonger.r0 : List DOp := [
  ⟨some 4, .mv (.const (.bool false)), none, []⟩]
def F.parlkeep5_LensLonger.r1 : List DOp := [
  ⟨some 17, .mv (.tmp 0), none, []⟩,
  ⟨some 18, .call I.parlmake_Grammar [.tmp 17], none, []⟩,
  ⟨some 5, .alloc [.int .i64 0, .int .i64 0, .int .i64 0, .slice none 0 0], none, []⟩,
  ⟨none, .store 4 (.tmp 5) (.tmp 18), none, []⟩]
def F.parlkeep5_LensLonger.r2 : List DOp := [
  ⟨some 19, .mv (.tmp 1), none, []⟩,
  ⟨some 20, .call I.parlkeep5_below [.tmp 19, .const (.int .i64 60)], none, []⟩,
  ⟨some 1, .mv (.tmp 20), none, []⟩]
def F.parlkeep5_LensLonger.r3 : List DOp := [
  ⟨some 22, .call I.parlkeep5_plain [], none, []⟩,
  ⟨some 23, .call I.lens_Set [.tmp 22, .const (.int .i64 1)], none, []⟩,
  ⟨some 21, .mv (.tmp 23), none, []⟩,
  ⟨some 24, .extract (.tmp 21) 0, none, []⟩,
  ⟨some 25, .extract (.tmp 21) 1, none, []⟩,
  ⟨some 6, .mv (.tmp 24), none, []⟩,
  ⟨some 7, .mv (.tmp 25), none, []⟩]
def F.parlkeep5_LensLonger.r4 : List DOp := [
  ⟨some 26, .mv (.tmp 7), none, []⟩,
  ⟨some 27, .bin .neq (.tmp 26) (.const (.int .i64 0)), none, []⟩,
  ⟨some 28, .mv (.tmp 27), none, []⟩,
  ⟨some 29, .mv (.tmp 6), (some (28, false)), []⟩,
  ⟨some 30, .len (.tmp 29), (some (28, false)), []⟩,
  ⟨some 31, .bin .neq (.tmp 30) (.const (.int .i64 2)), (some (28, false)), []⟩,
  ⟨some 32, .pick (.tmp 28) (.const (.bool true)) (.tmp 31), none, []⟩,
  ⟨some 33, .mv (.tmp 32), none, []⟩,
  ⟨some 34, .mv (.tmp 6), (some (33, false)), []⟩,
  ⟨some 35, .idxs 1 (.tmp 34) (.const (.int .i64 1)), (some (33, false)), []⟩,
  ⟨some 36, .load 1 false (.tmp 35), (some (33, false)), []⟩,
  ⟨some 37, .un .not (.tmp 36), (some (33, false)), []⟩,
  ⟨some 38, .pick (.tmp 33) (.const (.bool true)) (.tmp 37), none, []⟩]
def F.parlkeep5_LensLonger.r5 : List DOp := [
  ⟨some 4, .mv (.const (.bool false)), none, []⟩]
def F.parlkeep5_LensLonger.r6 : List DOp := [
  ⟨some 39, .load 4 true (.tmp 5), none, []⟩,
  ⟨some 8, .alloc [.int .i64 0, .int .i64 0, .int .i64 0, .slice none 0 0], none, []⟩,
  ⟨none, .store 4 (.tmp 8) (.tmp 39), none, []⟩]
def F.parlkeep5_LensLonger.r7 : List DOp := [
  ⟨some 40, .faddr 1 (.tmp 5), none, []⟩,
  ⟨some 41, .load 1 false (.tmp 40), none, []⟩,
  ⟨some 42, .bin .add (.tmp 41) (.const (.int .i64 1)), none, []⟩,
  ⟨some 43, .faddr 1 (.tmp 5), none, []⟩,
  ⟨some 44, .load 1 false (.tmp 43), none, []⟩,
  ⟨some 45, .faddr 1 (.tmp 8), none, []⟩,
  ⟨none, .store 1 (.tmp 45) (.tmp 42), none, []⟩,
  ⟨some 46, .faddr 2 (.tmp 8), none, []⟩,
  ⟨none, .store 1 (.tmp 46) (.tmp 44), none, []⟩]
def F.parlkeep5_LensLonger.r8 : List DOp := [
  ⟨some 47, .faddr 3 (.tmp 5), none, []⟩,
  ⟨some 48, .load 1 false (.tmp 47), none, []⟩,
  ⟨some 49, .call I.slices_Clone_api_Rule_api_Rule [.tmp 48], none, []⟩,
  ⟨some 50, .faddr 1 (.tmp 5), none, []⟩,
  ⟨some 51, .load 1 false (.tmp 50), none, []⟩,
  ⟨some 52, .build [.bool false, .int .i64 0] [(0, 1, .const (.bool true))], none, []⟩,
  ⟨some 53, .faddr 2 (.tmp 5), none, []⟩,
  ⟨some 54, .load 1 false (.tmp 53), none, []⟩,
  ⟨some 55, .build [.bool false, .int .i64 0] [(1, 1, .tmp 54)], none, []⟩,
  ⟨some 56, .bslice 2 2 [.bool false, .int .i64 0, .bool false, .int .i64 0] [(0, 2, .tmp 52), (2, 2, .tmp 55)], none, []⟩,
  ⟨some 57, .build [.int .i64 0, .slice none 0 0] [(0, 1, .tmp 51), (1, 1, .tmp 56)], none, []⟩,
  ⟨some 58, .bslice 2 1 [.int .i64 0, .slice none 0 0] [(0, 2, .tmp 57)], none, []⟩,
  ⟨some 59, .append 2 32 (.tmp 49) (.tmp 58), none, []⟩,
  ⟨some 60, .faddr 3 (.tmp 8), none, []⟩,
  ⟨none, .store 1 (.tmp 60) (.tmp 59), none, []⟩]
def F.parlkeep5_LensLonger.r9 : List DOp := [
  ⟨some 62, .load 4 true (.tmp 5), none, []⟩,
  ⟨some 63, .mv (.tmp 1), none, []⟩,
  ⟨some 64, .call I.lens_Set [.tmp 62, .tmp 63], none, []⟩,
  ⟨some 61, .mv (.tmp 64), none, []⟩,
  ⟨some 65, .extract (.tmp 61) 0, none, []⟩,
  ⟨some 66, .extract (.tmp 61) 1, none, []⟩,
  ⟨some 9, .mv (.tmp 65), none, []⟩,
  ⟨some 10, .mv (.tmp 66), none, []⟩]
def F.parlkeep5_LensLonger.r10 : List DOp := [
  ⟨some 68, .load 4 true (.tmp 8), none, []⟩,
  ⟨some 69, .mv (.tmp 1), none, []⟩,
  ⟨some 70, .bin .add (.tmp 69) (.const (.int .i64 1)), none, []⟩,
  ⟨some 71, .call I.lens_Set [.tmp 68, .tmp 70], none, []⟩,
  ⟨some 67, .mv (.tmp 71), none, []⟩,
  ⟨some 72, .extract (.tmp 67) 0, none, []⟩,
  ⟨some 73, .extract (.tmp 67) 1, none, []⟩,
  ⟨some 11, .mv (.tmp 72), none, []⟩,
  ⟨some 12, .mv (.tmp 73), none, []⟩]
def F.parlkeep5_LensLonger.r11 : List DOp := [
  ⟨some 75, .load 4 true (.tmp 5), none, []⟩,
  ⟨some 76, .call I.lens_Greatest [.tmp 75], none, []⟩,
  ⟨some 74, .mv (.tmp 76), none, []⟩,
  ⟨some 77, .extract (.tmp 74) 0, none, []⟩,
  ⟨some 78, .extract (.tmp 74) 1, none, []⟩,
  ⟨some 13, .mv (.tmp 77), none, []⟩,
  ⟨some 14, .mv (.tmp 78), none, []⟩]
def F.parlkeep5_LensLonger.r12 : List DOp := [
  ⟨some 80, .load 4 true (.tmp 8), none, []⟩,
  ⟨some 81, .call I.lens_Greatest [.tmp 80], none, []⟩,
  ⟨some 79, .mv (.tmp 81), none, []⟩,
  ⟨some 82, .extract (.tmp 79) 0, none, []⟩,
  ⟨some 83, .extract (.tmp 79) 1, none, []⟩,
  ⟨some 15, .mv (.tmp 82), none, []⟩,
  ⟨some 16, .mv (.tmp 83), none, []⟩]
def F.parlkeep5_LensLonger.r13 : List DOp := [
  ⟨some 84, .mv (.tmp 13), none, []⟩,
  ⟨some 85, .bin .geq (.tmp 84) (.const (.int .i64 0)), none, []⟩]
def F.parlkeep5_LensLonger.r14 : List DOp := [
  ⟨some 86, .mv (.tmp 13), none, []⟩,
  ⟨some 87, .bin .add (.tmp 86) (.const (.int .i64 1)), none, []⟩,
  ⟨some 13, .mv (.tmp 87), none, []⟩]
def F.parlkeep5_LensLonger.r15 : List DOp := [
  ⟨some 88, .mv (.tmp 10), none, []⟩,
  ⟨some 89, .bin .eql (.tmp 88) (.const (.int .i64 0)), none, []⟩,
  ⟨some 90, .mv (.tmp 89), none, []⟩,
  ⟨some 91, .mv (.tmp 12), (some (90, true)), []⟩,
  ⟨some 92, .bin .eql (.tmp 91) (.const (.int .i64 0)), (some (90, true)), []⟩,
  ⟨some 93, .pick (.tmp 90) (.tmp 92) (.const (.bool false)), none, []⟩,
  ⟨some 94, .mv (.tmp 93), none, []⟩,
  ⟨some 95, .mv (.tmp 14), (some (94, true)), []⟩,
  ⟨some 96, .bin .eql (.tmp 95) (.const (.int .i64 0)), (some (94, true)), []⟩,
  ⟨some 97, .pick (.tmp 94) (.tmp 96) (.const (.bool false)), none, []⟩,
  ⟨some 98, .mv (.tmp 97), none, []⟩,
  ⟨some 99, .mv (.tmp 16), (some (98, true)), []⟩,
  ⟨some 100, .bin .eql (.tmp 99) (.const (.int .i64 0)), (some (98, true)), []⟩,
  ⟨some 101, .pick (.tmp 98) (.tmp 100) (.const (.bool false)), none, []⟩,
  ⟨some 102, .mv (.tmp 101), none, []⟩,
  ⟨some 103, .mv (.tmp 11), (some (102, true)), []⟩,
  ⟨some 104, .len (.tmp 103), (some (102, true)), []⟩,
  ⟨some 105, .mv (.tmp 1), (some (102, true)), []⟩,
  ⟨some 106, .bin .add (.tmp 105) (.const (.int .i64 2)), (some (102, true)), []⟩,
  ⟨some 107, .bin .eql (.tmp 104) (.tmp 106), (some (102, true)), []⟩,
  ⟨some 108, .pick (.tmp 102) (.tmp 107) (.const (.bool false)), none, []⟩,
  ⟨some 109, .mv (.tmp 108), none, []⟩,
  ⟨some 110, .mv (.tmp 11), (some (109, true)), []⟩,
  ⟨some 111, .idxs 1 (.tmp 110) (.const (.int .i64 0)), (some (109, true)), []⟩,
  ⟨some 112, .load 1 false (.tmp 111), (some (109, true)), []⟩,
  ⟨some 113, .un .not (.tmp 112), (some (109, true)), []⟩,
  ⟨some 114, .pick (.tmp 109) (.tmp 113) (.const (.bool false)), none, []⟩,
  ⟨some 115, .mv (.tmp 114), none, []⟩,
  ⟨some 116, .mv (.tmp 9), (some (115, true)), []⟩,
  ⟨some 117, .mv (.tmp 11), (some (115, true)), []⟩,
  ⟨some 118, .slice 1 (.tmp 117) (some (.const (.int .i64 1))) none, (some (115, true)), []⟩,
  ⟨some 119, .call I.slices_Equal_bool_bool [.tmp 116, .tmp 118], (some (115, true)), []⟩,
  ⟨some 120, .pick (.tmp 115) (.tmp 119) (.const (.bool false)), none, []⟩,
  ⟨some 121, .mv (.tmp 120), none, []⟩,
  ⟨some 122, .mv (.tmp 13), (some (121, true)), []⟩,
  ⟨some 123, .mv (.tmp 15), (some (121, true)), []⟩,
  ⟨some 124, .bin .eql (.tmp 122) (.tmp 123), (some (121, true)), []⟩,
  ⟨some 125, .pick (.tmp 121) (.tmp 124) (.const (.bool false)), none, []⟩,
  ⟨some 4, .mv (.tmp 125), none, []⟩]
def F.parlkeep5_LensLonger.c : ACode := .seq (.region F.parlkeep5_LensLonger.r0) (.seq (.region F.parlkeep5_LensLonger.r1) (.seq (.region F.parlkeep5_LensLonger.r2) (.seq (.seq (.region F.parlkeep5_LensLonger.r3) (.seq (.region F.parlkeep5_LensLonger.r4) (.cond (.tmp 38) (.seq (.region F.parlkeep5_LensLonger.r5) (.ret)) (.skip)))) (.seq (.region F.parlkeep5_LensLonger.r6) (.seq (.draw F.parlkeep5_LensLonger.r7 [(4, 6)]) (.seq (.draw F.parlkeep5_LensLonger.r8 [(4, 2), (7, 2)]) (.seq (.region F.parlkeep5_LensLonger.r9) (.seq (.region F.parlkeep5_LensLonger.r10) (.seq (.region F.parlkeep5_LensLonger.r11) (.seq (.region F.parlkeep5_LensLonger.r12) (.seq (.seq (.region F.parlkeep5_LensLonger.r13) (.cond (.tmp 85) (.region F.parlkeep5_LensLonger.r14) (.skip))) (.seq (.region F.parlkeep5_LensLonger.r15) (.ret)))))))))))))
def F.parlkeep5_LensLonger : AFunc := ⟨F.parlkeep5_LensLonger.c, [.tmp 4]⟩
/-! parlance/parlkeep5.LensWord -/
def F.parlkeep5_LensWord.r0 : List DOp := [
  ⟨some 4, .mv (.const (.bool false)), none, []⟩]
def F.parlkeep5_LensWord.r1 : List DOp := [
  ⟨some 15, .mv (.tmp 0), none, []⟩,
  ⟨some 16, .call I.parlmake_Grammar [.tmp 15], none, []⟩,
  ⟨some 5, .alloc [.int .i64 0, .int .i64 0, .int .i64 0, .slice none 0 0], none, []⟩,
  ⟨none, .store 4 (.tmp 5) (.tmp 16), none, []⟩]
def F.parlkeep5_LensWord.r2 : List DOp := [
  ⟨some 18, .call I.parlkeep5_plain [], none, []⟩,
  ⟨some 19, .call I.lens_Greatest [.tmp 18], none, []⟩,
  ⟨some 17, .mv (.tmp 19), none, []⟩,
  ⟨some 20, .extract (.tmp 17) 0, none, []⟩,
  ⟨some 21, .extract (.tmp 17) 1, none, []⟩,
  ⟨some 6, .mv (.tmp 20), none, []⟩,
  ⟨some 7, .mv (.tmp 21), none, []⟩]
def F.parlkeep5_LensWord.r3 : List DOp := [
  ⟨some 22, .mv (.tmp 7), none, []⟩,
  ⟨some 23, .bin .neq (.tmp 22) (.const (.int .i64 0)), none, []⟩,
  ⟨some 24, .mv (.tmp 23), none, []⟩,
  ⟨some 25, .mv (.tmp 6), (some (24, false)), []⟩,
  ⟨some 26, .bin .neq (.tmp 25) (.const (.int .i64 (-2))), (some (24, false)), []⟩,
  ⟨some 27, .pick (.tmp 24) (.const (.bool true)) (.tmp 26), none, []⟩]
def F.parlkeep5_LensWord.r4 : List DOp := [
  ⟨some 4, .mv (.const (.bool false)), none, []⟩]
def F.parlkeep5_LensWord.r5 : List DOp := [
  ⟨some 29, .load 4 true (.tmp 5), none, []⟩,
  ⟨some 30, .call I.lens_Greatest [.tmp 29], none, []⟩,
  ⟨some 28, .mv (.tmp 30), none, []⟩,
  ⟨some 31, .extract (.tmp 28) 0, none, []⟩,
  ⟨some 32, .extract (.tmp 28) 1, none, []⟩,
  ⟨some 8, .mv (.tmp 31), none, []⟩,
  ⟨some 9, .mv (.tmp 32), none, []⟩]
def F.parlkeep5_LensWord.r6 : List DOp := [
  ⟨some 34, .load 4 true (.tmp 5), none, []⟩,
  ⟨some 35, .call I.lens_Set [.tmp 34, .const (.int .i64 200)], none, []⟩,
  ⟨some 33, .mv (.tmp 35), none, []⟩,
  ⟨some 36, .extract (.tmp 33) 0, none, []⟩,
  ⟨some 37, .extract (.tmp 33) 1, none, []⟩,
  ⟨some 10, .mv (.tmp 36), none, []⟩,
  ⟨some 11, .mv (.tmp 37), none, []⟩]
def F.parlkeep5_LensWord.r7 : List DOp := [
  ⟨some 38, .mv (.tmp 9), none, []⟩,
  ⟨some 39, .bin .neq (.tmp 38) (.const (.int .i64 0)), none, []⟩,
  ⟨some 40, .mv (.tmp 39), none, []⟩,
  ⟨some 41, .mv (.tmp 11), (some (40, false)), []⟩,
  ⟨some 42, .bin .neq (.tmp 41) (.const (.int .i64 0)), (some (40, false)), []⟩,
  ⟨some 43, .pick (.tmp 40) (.const (.bool true)) (.tmp 42), none, []⟩,
  ⟨some 44, .mv (.tmp 43), none, []⟩,
  ⟨some 45, .mv (.tmp 10), (some (44, false)), []⟩,
  ⟨some 46, .len (.tmp 45), (some (44, false)), []⟩,
  ⟨some 47, .bin .neq (.tmp 46) (.const (.int .i64 201)), (some (44, false)), []⟩,
  ⟨some 48, .pick (.tmp 44) (.const (.bool true)) (.tmp 47), none, []⟩]
def F.parlkeep5_LensWord.r8 : List DOp := [
  ⟨some 4, .mv (.const (.bool false)), none, []⟩]
def F.parlkeep5_LensWord.r9 : List DOp := [
  ⟨some 49, .mv (.tmp 8), none, []⟩,
  ⟨some 50, .bin .geq (.tmp 49) (.const (.int .i64 0)), none, []⟩,
  ⟨some 51, .mv (.tmp 50), none, []⟩,
  ⟨some 52, .mv (.tmp 8), (some (51, true)), []⟩,
  ⟨some 53, .bin .leq (.tmp 52) (.const (.int .i64 200)), (some (51, true)), []⟩,
  ⟨some 54, .pick (.tmp 51) (.tmp 53) (.const (.bool false)), none, []⟩,
  ⟨some 55, .mv (.tmp 54), none, []⟩,
  ⟨some 56, .mv (.tmp 10), (some (55, true)), []⟩,
  ⟨some 57, .mv (.tmp 8), (some (55, true)), []⟩,
  ⟨some 58, .idxs 1 (.tmp 56) (.tmp 57), (some (55, true)), []⟩,
  ⟨some 59, .load 1 false (.tmp 58), (some (55, true)), []⟩,
  ⟨some 60, .un .not (.tmp 59), (some (55, true)), []⟩,
  ⟨some 61, .mv (.tmp 60), (some (55, true)), []⟩,
  ⟨some 62, .mv (.tmp 10), (some (61, false)), []⟩,
  ⟨some 63, .mv (.tmp 8), (some (61, false)), []⟩,
  ⟨some 64, .bin .add (.tmp 63) (.const (.int .i64 1)), (some (61, false)), []⟩,
  ⟨some 65, .slice 1 (.tmp 62) (some (.tmp 64)) none, (some (61, false)), []⟩,
  ⟨some 66, .call I.slices_Contains_bool_bool [.tmp 65, .const (.bool true)], (some (61, false)), []⟩,
  ⟨some 67, .pick (.tmp 61) (.const (.bool true)) (.tmp 66), (some (55, true)), []⟩,
  ⟨some 68, .pick (.tmp 55) (.tmp 67) (.const (.bool false)), none, []⟩,
  ⟨some 69, .mv (.tmp 68), none, []⟩,
  ⟨some 70, .mv (.tmp 8), (some (69, false)), []⟩,
  ⟨some 71, .bin .eql (.tmp 70) (.const (.int .i64 (-1))), (some (69, false)), []⟩,
  ⟨some 72, .mv (.tmp 71), (some (69, false)), []⟩,
  ⟨some 73, .mv (.tmp 10), (some (72, true)), []⟩,
  ⟨some 74, .call I.slices_Contains_bool_bool [.tmp 73, .const (.bool true)], (some (72, true)), []⟩,
  ⟨some 75, .pick (.tmp 72) (.tmp 74) (.const (.bool false)), (some (69, false)), []⟩,
  ⟨some 76, .pick (.tmp 69) (.const (.bool true)) (.tmp 75), none, []⟩]
def F.parlkeep5_LensWord.r10 : List DOp := [
  ⟨some 4, .mv (.const (.bool false)), none, []⟩]
def F.parlkeep5_LensWord.r11 : List DOp := [
  ⟨some 78, .load 4 true (.tmp 5), none, []⟩,
  ⟨some 79, .mv (.tmp 1), none, []⟩,
  ⟨some 80, .call I.parlmake_Tree [.tmp 78, .tmp 79], none, []⟩,
  ⟨some 77, .mv (.tmp 80), none, []⟩,
  ⟨some 81, .extract (.tmp 77) 0, none, []⟩,
  ⟨some 82, .extract (.tmp 77) 1, none, []⟩,
  ⟨some 12, .alloc [.int .i64 0, .int .i64 0, .slice none 0 0], none, []⟩,
  ⟨none, .store 3 (.tmp 12) (.tmp 81), none, []⟩,
  ⟨some 13, .mv (.tmp 82), none, []⟩]
def F.parlkeep5_LensWord.r12 : List DOp := [
  ⟨some 83, .mv (.tmp 13), none, []⟩,
  ⟨some 84, .un .not (.tmp 83), none, []⟩]
def F.parlkeep5_LensWord.r13 : List DOp := [
  ⟨some 4, .mv (.const (.bool true)), none, []⟩]
def F.parlkeep5_LensWord.r14 : List DOp := [
  ⟨some 85, .load 3 true (.tmp 12), none, []⟩,
  ⟨some 86, .call I.tree_Word [.tmp 85], none, []⟩,
  ⟨some 87, .len (.tmp 86), none, []⟩,
  ⟨some 14, .mv (.tmp 87), none, []⟩]
def F.parlkeep5_LensWord.r15 : List DOp := [
  ⟨some 88, .mv (.tmp 8), none, []⟩,
  ⟨some 89, .bin .eql (.tmp 88) (.const (.int .i64 (-2))), none, []⟩,
  ⟨some 90, .mv (.tmp 89), none, []⟩,
  ⟨some 91, .mv (.tmp 14), (some (90, false)), []⟩,
  ⟨some 92, .mv (.tmp 8), (some (90, false)), []⟩,
  ⟨some 93, .bin .leq (.tmp 91) (.tmp 92), (some (90, false)), []⟩,
  ⟨some 94, .pick (.tmp 90) (.const (.bool true)) (.tmp 93), none, []⟩,
  ⟨some 95, .mv (.tmp 94), none, []⟩,
  ⟨some 96, .mv (.tmp 14), (some (95, true)), []⟩,
  ⟨some 97, .bin .gtr (.tmp 96) (.const (.int .i64 200)), (some (95, true)), []⟩,
  ⟨some 98, .mv (.tmp 97), (some (95, true)), []⟩,
  ⟨some 99, .mv (.tmp 10), (some (98, false)), []⟩,
  ⟨some 100, .mv (.tmp 14), (some (98, false)), []⟩,
  ⟨some 101, .idxs 1 (.tmp 99) (.tmp 100), (some (98, false)), []⟩,
  ⟨some 102, .load 1 false (.tmp 101), (some (98, false)), []⟩,
  ⟨some 103, .pick (.tmp 98) (.const (.bool true)) (.tmp 102), (some (95, true)), []⟩,
  ⟨some 104, .pick (.tmp 95) (.tmp 103) (.const (.bool false)), none, []⟩,
  ⟨some 4, .mv (.tmp 104), none, []⟩]
def F.parlkeep5_LensWord.c : ACode := .seq (.region F.parlkeep5_LensWord.r0) (.seq (.region F.parlkeep5_LensWord.r1) (.seq (.seq (.region F.parlkeep5_LensWord.r2) (.seq (.region F.parlkeep5_LensWord.r3) (.cond (.tmp 27) (.seq (.region F.parlkeep5_LensWord.r4) (.ret)) (.skip)))) (.seq (.region F.parlkeep5_LensWord.r5) (.seq (.region F.parlkeep5_LensWord.r6) (.seq (.seq (.region F.parlkeep5_LensWord.r7) (.cond (.tmp 48) (.seq (.region F.parlkeep5_LensWord.r8) (.ret)) (.skip))) (.seq (.seq (.region F.parlkeep5_LensWord.r9) (.cond (.tmp 76) (.seq (.region F.parlkeep5_LensWord.r10) (.ret)) (.skip))) (.seq (.region F.parlkeep5_LensWord.r11) (.seq (.seq (.region F.parlkeep5_LensWord.r12) (.cond (.tmp 84) (.seq (.region F.parlkeep5_LensWord.r13) (.ret)) (.skip))) (.seq (.region F.parlkeep5_LensWord.r14) (.seq (.region F.parlkeep5_LensWord.r15) (.ret)))))))))))
def F.parlkeep5_LensWord : AFunc := ⟨F.parlkeep5_LensWord.c, [.tmp 4]⟩
/-! parlance/parlkeep5.GuessLess -/
def F.parlkeep5_GuessLess.r0 : List DOp := [
  ⟨some 4, .mv (.const (.bool false)), none, []⟩]
def F.parlkeep5_GuessLess.r1 : List DOp := [
  ⟨some 15, .mv (.tmp 0), none, []⟩,
  ⟨some 16, .call I.parlmake_Dfa [.tmp 15], none, []⟩,
  ⟨some 5, .alloc [.int .i64 0, .slice none 0 0, .slice none 0 0], none, []⟩,
  ⟨none, .store 3 (.tmp 5) (.tmp 16), none, []⟩]
def F.parlkeep5_GuessLess.r2 : List DOp := [
  ⟨some 18, .bslice 1 1 [.int .i64 0] [(0, 1, .const (.int .i64 0))], none, []⟩,
  ⟨some 19, .bslice 1 1 [.slice none 0 0] [(0, 1, .tmp 18)], none, []⟩,
  ⟨some 20, .bslice 1 0 [] [], none, []⟩,
  ⟨some 21, .bslice 1 1 [.slice none 0 0] [(0, 1, .tmp 20)], none, []⟩,
  ⟨some 22, .call I.guess_Of [.const (.int .i64 1), .const (.int .i64 1), .tmp 19, .tmp 21], none, []⟩,
  ⟨some 17, .mv (.tmp 22), none, []⟩,
  ⟨some 23, .extract (.tmp 17) 0, none, []⟩,
  ⟨some 24, .extract (.tmp 17) 1, none, []⟩,
  ⟨some 6, .alloc [.int .i64 0, .int .i64 0, .int .i64 0, .slice none 0 0], none, []⟩,
  ⟨none, .store 4 (.tmp 6) (.tmp 23), none, []⟩,
  ⟨some 7, .mv (.tmp 24), none, []⟩]
def F.parlkeep5_GuessLess.r3 : List DOp := [
  ⟨some 25, .mv (.tmp 7), none, []⟩,
  ⟨some 26, .bin .neq (.tmp 25) (.const (.int .i64 0)), none, []⟩,
  ⟨some 27, .mv (.tmp 26), none, []⟩,
  ⟨some 28, .faddr 3 (.tmp 6), (some (27, false)), []⟩,
  ⟨some 29, .load 1 false (.tmp 28), (some (27, false)), []⟩,
  ⟨some 30, .len (.tmp 29), (some (27, false)), []⟩,
  ⟨some 31, .bin .neq (.tmp 30) (.const (.int .i64 1)), (some (27, false)), []⟩,
  ⟨some 32, .pick (.tmp 27) (.const (.bool true)) (.tmp 31), none, []⟩]
def F.parlkeep5_GuessLess.r4 : List DOp := [
  ⟨some 4, .mv (.const (.bool false)), none, []⟩]
def F.parlkeep5_GuessLess.r5 : List DOp := [
  ⟨some 33, .faddr 2 (.tmp 5), none, []⟩,
  ⟨some 34, .load 1 false (.tmp 33), none, []⟩,
  ⟨some 35, .idxs 1 (.tmp 34) (.const (.int .i64 0)), none, []⟩,
  ⟨some 36, .load 1 false (.tmp 35), none, []⟩,
  ⟨some 37, .len (.tmp 36), none, []⟩,
  ⟨some 38, .mm false [.const (.int .i64 2), .tmp 37], none, []⟩,
  ⟨some 8, .mv (.tmp 38), none, []⟩]
def F.parlkeep5_GuessLess.r6 : List DOp := [
  ⟨some 40, .load 3 true (.tmp 5), none, []⟩,
  ⟨some 41, .mv (.tmp 8), none, []⟩,
  ⟨some 42, .mv (.tmp 1), none, []⟩,
  ⟨some 43, .call I.parlkeep5_fewer [.tmp 40, .tmp 41, .tmp 42], none, []⟩,
  ⟨some 39, .mv (.tmp 43), none, []⟩,
  ⟨some 44, .extract (.tmp 39) 0, none, []⟩,
  ⟨some 45, .extract (.tmp 39) 1, none, []⟩,
  ⟨some 9, .mv (.tmp 44), none, []⟩,
  ⟨some 10, .mv (.tmp 45), none, []⟩]
def F.parlkeep5_GuessLess.r7 : List DOp := [
  ⟨some 47, .mv (.tmp 8), none, []⟩,
  ⟨some 48, .mv (.tmp 9), none, []⟩,
  ⟨some 49, .mv (.tmp 10), none, []⟩,
  ⟨some 50, .call I.guess_Of [.tmp 47, .const (.int .i64 1), .tmp 48, .tmp 49], none, []⟩,
  ⟨some 46, .mv (.tmp 50), none, []⟩,
  ⟨some 51, .extract (.tmp 46) 0, none, []⟩,
  ⟨some 52, .extract (.tmp 46) 1, none, []⟩,
  ⟨some 11, .alloc [.int .i64 0, .int .i64 0, .int .i64 0, .slice none 0 0], none, []⟩,
  ⟨none, .store 4 (.tmp 11) (.tmp 51), none, []⟩,
  ⟨some 12, .mv (.tmp 52), none, []⟩]
def F.parlkeep5_GuessLess.r8 : List DOp := [
  ⟨some 53, .mv (.tmp 12), none, []⟩,
  ⟨some 54, .bin .neq (.tmp 53) (.const (.int .i64 0)), none, []⟩,
  ⟨some 55, .mv (.tmp 54), none, []⟩,
  ⟨some 56, .mv (.tmp 9), (some (55, false)), []⟩,
  ⟨some 57, .len (.tmp 56), (some (55, false)), []⟩,
  ⟨some 58, .bin .eql (.tmp 57) (.const (.int .i64 0)), (some (55, false)), []⟩,
  ⟨some 59, .pick (.tmp 55) (.const (.bool true)) (.tmp 58), none, []⟩]
def F.parlkeep5_GuessLess.r9 : List DOp := [
  ⟨some 60, .mv (.tmp 12), none, []⟩,
  ⟨some 61, .bin .eql (.tmp 60) (.const (.int .i64 0)), none, []⟩,
  ⟨some 62, .mv (.tmp 61), none, []⟩,
  ⟨some 63, .mv (.tmp 12), (some (62, false)), []⟩,
  ⟨some 64, .bin .eql (.tmp 63) (.const (.int .i64 5)), (some (62, false)), []⟩,
  ⟨some 65, .pick (.tmp 62) (.const (.bool true)) (.tmp 64), none, []⟩,
  ⟨some 4, .mv (.tmp 65), none, []⟩]
def F.parlkeep5_GuessLess.r10 : List DOp := [
  ⟨some 67, .mv (.tmp 8), none, []⟩,
  ⟨some 68, .mv (.tmp 9), none, []⟩,
  ⟨some 69, .slice 1 (.tmp 68) (some (.const (.int .i64 1))) none, none, []⟩,
  ⟨some 70, .mv (.tmp 10), none, []⟩,
  ⟨some 71, .call I.guess_Of [.tmp 67, .const (.int .i64 1), .tmp 69, .tmp 70], none, []⟩,
  ⟨some 66, .mv (.tmp 71), none, []⟩,
  ⟨some 72, .extract (.tmp 66) 0, none, []⟩,
  ⟨some 73, .extract (.tmp 66) 1, none, []⟩,
  ⟨some 13, .alloc [.int .i64 0, .int .i64 0, .int .i64 0, .slice none 0 0], none, []⟩,
  ⟨none, .store 4 (.tmp 13) (.tmp 72), none, []⟩,
  ⟨some 14, .mv (.tmp 73), none, []⟩]
def F.parlkeep5_GuessLess.r11 : List DOp := [
  ⟨some 74, .mv (.tmp 14), none, []⟩,
  ⟨some 75, .bin .eql (.tmp 74) (.const (.int .i64 0)), none, []⟩,
  ⟨some 76, .mv (.tmp 75), none, []⟩,
  ⟨some 77, .faddr 3 (.tmp 13), (some (76, true)), []⟩,
  ⟨some 78, .load 1 false (.tmp 77), (some (76, true)), []⟩,
  ⟨some 79, .len (.tmp 78), (some (76, true)), []⟩,
  ⟨some 80, .faddr 3 (.tmp 11), (some (76, true)), []⟩,
  ⟨some 81, .load 1 false (.tmp 80), (some (76, true)), []⟩,
  ⟨some 82, .len (.tmp 81), (some (76, true)), []⟩,
  ⟨some 83, .bin .leq (.tmp 79) (.tmp 82), (some (76, true)), []⟩,
  ⟨some 84, .pick (.tmp 76) (.tmp 83) (.const (.bool false)), none, []⟩,
  ⟨some 4, .mv (.tmp 84), none, []⟩]
def F.parlkeep5_GuessLess.c : ACode := .seq (.region F.parlkeep5_GuessLess.r0) (.seq (.region F.parlkeep5_GuessLess.r1) (.seq (.seq (.region F.parlkeep5_GuessLess.r2) (.seq (.region F.parlkeep5_GuessLess.r3) (.cond (.tmp 32) (.seq (.region F.parlkeep5_GuessLess.r4) (.ret)) (.skip)))) (.seq (.region F.parlkeep5_GuessLess.r5) (.seq (.region F.parlkeep5_GuessLess.r6) (.seq (.region F.parlkeep5_GuessLess.r7) (.seq (.seq (.region F.parlkeep5_GuessLess.r8) (.cond (.tmp 59) (.seq (.region F.parlkeep5_GuessLess.r9) (.ret)) (.skip))) (.seq (.region F.parlkeep5_GuessLess.r10) (.seq (.region F.parlkeep5_GuessLess.r11) (.ret)))))))))
def F.parlkeep5_GuessLess : AFunc := ⟨F.parlkeep5_GuessLess.c, [.tmp 4]⟩
/-! parlance/parlkeep5.CensusShort -/
def F.parlkeep5_CensusShort.r0 : List DOp := [
  ⟨some 4, .mv (.const (.bool false)), none, []⟩]
def F.parlkeep5_CensusShort.r1 : List DOp := [
  ⟨some 11, .mv (.tmp 0), none, []⟩,
  ⟨some 12, .call I.parlmake_Grammar [.tmp 11], none, []⟩,
  ⟨some 5, .alloc [.int .i64 0, .int .i64 0, .int .i64 0, .slice none 0 0], none, []⟩,
  ⟨none, .store 4 (.tmp 5) (.tmp 12), none, []⟩]
def F.parlkeep5_CensusShort.r2 : List DOp := [
  ⟨some 13, .mv (.tmp 1), none, []⟩,
  ⟨some 14, .call I.parlkeep5_below [.tmp 13, .const (.int .i64 12)], none, []⟩,
  ⟨some 1, .mv (.tmp 14), none, []⟩]
def F.parlkeep5_CensusShort.r3 : List DOp := [
  ⟨some 16, .load 4 true (.tmp 5), none, []⟩,
  ⟨some 17, .mv (.tmp 1), none, []⟩,
  ⟨some 18, .call I.census_Trees [.tmp 16, .tmp 17], none, []⟩,
  ⟨some 15, .mv (.tmp 18), none, []⟩,
  ⟨some 19, .extract (.tmp 15) 0, none, []⟩,
  ⟨some 20, .extract (.tmp 15) 1, none, []⟩,
  ⟨some 6, .mv (.tmp 19), none, []⟩,
  ⟨some 7, .mv (.tmp 20), none, []⟩]
def F.parlkeep5_CensusShort.r4 : List DOp := [
  ⟨some 22, .load 4 true (.tmp 5), none, []⟩,
  ⟨some 23, .mv (.tmp 1), none, []⟩,
  ⟨some 24, .bin .add (.tmp 23) (.const (.int .i64 1)), none, []⟩,
  ⟨some 25, .mv (.tmp 1), none, []⟩,
  ⟨some 26, .call I.parlkeep5_below [.tmp 25, .const (.int .i64 5)], none, []⟩,
  ⟨some 27, .bin .add (.tmp 24) (.tmp 26), none, []⟩,
  ⟨some 28, .call I.census_Trees [.tmp 22, .tmp 27], none, []⟩,
  ⟨some 21, .mv (.tmp 28), none, []⟩,
  ⟨some 29, .extract (.tmp 21) 0, none, []⟩,
  ⟨some 30, .extract (.tmp 21) 1, none, []⟩,
  ⟨some 8, .mv (.tmp 29), none, []⟩,
  ⟨some 9, .mv (.tmp 30), none, []⟩]
def F.parlkeep5_CensusShort.r5 : List DOp := [
  ⟨some 31, .call I.parlkeep5_counts [], none, []⟩,
  ⟨some 32, .un .not (.tmp 31), none, []⟩,
  ⟨some 33, .mv (.tmp 32), none, []⟩,
  ⟨some 34, .mv (.tmp 7), (some (33, false)), []⟩,
  ⟨some 35, .bin .neq (.tmp 34) (.const (.int .i64 0)), (some (33, false)), []⟩,
  ⟨some 36, .pick (.tmp 33) (.const (.bool true)) (.tmp 35), none, []⟩,
  ⟨some 37, .mv (.tmp 36), none, []⟩,
  ⟨some 38, .mv (.tmp 9), (some (37, false)), []⟩,
  ⟨some 39, .bin .neq (.tmp 38) (.const (.int .i64 0)), (some (37, false)), []⟩,
  ⟨some 40, .pick (.tmp 37) (.const (.bool true)) (.tmp 39), none, []⟩,
  ⟨some 41, .mv (.tmp 40), none, []⟩,
  ⟨some 42, .mv (.tmp 6), (some (41, false)), []⟩,
  ⟨some 43, .len (.tmp 42), (some (41, false)), []⟩,
  ⟨some 44, .mv (.tmp 8), (some (41, false)), []⟩,
  ⟨some 45, .len (.tmp 44), (some (41, false)), []⟩,
  ⟨some 46, .bin .neq (.tmp 43) (.tmp 45), (some (41, false)), []⟩,
  ⟨some 47, .pick (.tmp 41) (.const (.bool true)) (.tmp 46), none, []⟩]
def F.parlkeep5_CensusShort.r6 : List DOp := [
  ⟨some 4, .mv (.const (.bool false)), none, []⟩]
def F.parlkeep5_CensusShort.r7 : List DOp := [
  ⟨some 48, .mv (.tmp 6), none, []⟩,
  ⟨some 49, .len (.tmp 48), none, []⟩,
  ⟨some 50, .mv (.const (.int .i64 0)), none, []⟩]
def F.parlkeep5_CensusShort.r8 : List DOp := [
  ⟨some 51, .bin .lss (.tmp 50) (.tmp 49), none, []⟩]
def F.parlkeep5_CensusShort.r9 : List DOp := [
  ⟨some 52, .mv (.tmp 50), none, []⟩,
  ⟨some 10, .mv (.tmp 52), none, []⟩]
def F.parlkeep5_CensusShort.r10 : List DOp := [
  ⟨some 53, .mv (.tmp 6), none, []⟩,
  ⟨some 54, .mv (.tmp 10), none, []⟩,
  ⟨some 55, .idxs 1 (.tmp 53) (.tmp 54), none, []⟩,
  ⟨some 56, .load 1 false (.tmp 55), none, []⟩,
  ⟨some 57, .len (.tmp 56), none, []⟩,
  ⟨some 58, .mv (.tmp 1), none, []⟩,
  ⟨some 59, .bin .add (.tmp 58) (.const (.int .i64 1)), none, []⟩,
  ⟨some 60, .bin .neq (.tmp 57) (.tmp 59), none, []⟩,
  ⟨some 61, .mv (.tmp 60), none, []⟩,
  ⟨some 62, .mv (.tmp 8), (some (61, false)), []⟩,
  ⟨some 63, .mv (.tmp 10), (some (61, false)), []⟩,
  ⟨some 64, .idxs 1 (.tmp 62) (.tmp 63), (some (61, false)), []⟩,
  ⟨some 65, .load 1 false (.tmp 64), (some (61, false)), []⟩,
  ⟨some 66, .len (.tmp 65), (some (61, false)), []⟩,
  ⟨some 67, .mv (.tmp 1), (some (61, false)), []⟩,
  ⟨some 68, .bin .add (.tmp 67) (.const (.int .i64 1)), (some (61, false)), []⟩,
  ⟨some 69, .bin .lss (.tmp 66) (.tmp 68), (some (61, false)), []⟩,
  ⟨some 70, .pick (.tmp 61) (.const (.bool true)) (.tmp 69), none, []⟩,
  ⟨some 71, .mv (.tmp 70), none, []⟩,
  ⟨some 72, .mv (.tmp 6), (some (71, false)), []⟩,
  ⟨some 73, .mv (.tmp 10), (some (71, false)), []⟩,
  ⟨some 74, .idxs 1 (.tmp 72) (.tmp 73), (some (71, false)), []⟩,
  ⟨some 75, .load 1 false (.tmp 74), (some (71, false)), []⟩,
  ⟨some 76, .mv (.tmp 8), (some (71, false)), []⟩,
  ⟨some 77, .mv (.tmp 10), (some (71, false)), []⟩,
  ⟨some 78, .idxs 1 (.tmp 76) (.tmp 77), (some (71, false)), []⟩,
  ⟨some 79, .load 1 false (.tmp 78), (some (71, false)), []⟩,
  ⟨some 80, .mv (.tmp 1), (some (71, false)), []⟩,
  ⟨some 81, .bin .add (.tmp 80) (.const (.int .i64 1)), (some (71, false)), []⟩,
  ⟨some 82, .slice 1 (.tmp 79) none (some (.tmp 81)), (some (71, false)), []⟩,
  ⟨some 83, .call I.slices_Equal_int_int [.tmp 75, .tmp 82], (some (71, false)), []⟩,
  ⟨some 84, .un .not (.tmp 83), (some (71, false)), []⟩,
  ⟨some 85, .pick (.tmp 71) (.const (.bool true)) (.tmp 84), none, []⟩]
def F.parlkeep5_CensusShort.r11 : List DOp := [
  ⟨some 4, .mv (.const (.bool false)), none, []⟩]
def F.parlkeep5_CensusShort.r12 : List DOp := [
  ⟨some 86, .bin .add (.tmp 50) (.const (.int .i64 1)), none, []⟩,
  ⟨some 50, .mv (.tmp 86), none, []⟩]
def F.parlkeep5_CensusShort.L0 : ACode := .seq (.region F.parlkeep5_CensusShort.r8) (.seq (.cond (.tmp 51) (.skip) (.exit 0)) (.seq (.block 1 (.seq (.region F.parlkeep5_CensusShort.r9) (.seq (.draw F.parlkeep5_CensusShort.r10 []) (.cond (.tmp 85) (.seq (.region F.parlkeep5_CensusShort.r11) (.ret)) (.skip))))) (.region F.parlkeep5_CensusShort.r12)))
def F.parlkeep5_CensusShort.r13 : List DOp := [
  ⟨some 4, .mv (.const (.bool true)), none, []⟩]
def F.parlkeep5_CensusShort.c : ACode := .seq (.region F.parlkeep5_CensusShort.r0) (.seq (.region F.parlkeep5_CensusShort.r1) (.seq (.region F.parlkeep5_CensusShort.r2) (.seq (.region F.parlkeep5_CensusShort.r3) (.seq (.draw F.parlkeep5_CensusShort.r4 [(0, 4)]) (.seq (.seq (.region F.parlkeep5_CensusShort.r5) (.cond (.tmp 47) (.seq (.region F.parlkeep5_CensusShort.r6) (.ret)) (.skip))) (.seq (.seq (.region F.parlkeep5_CensusShort.r7) (.block 0 (.loop F.parlkeep5_CensusShort.L0))) (.seq (.region F.parlkeep5_CensusShort.r13) (.ret))))))))
def F.parlkeep5_CensusShort : AFunc := ⟨F.parlkeep5_CensusShort.c, [.tmp 4]⟩
/-! parlance/parlkeep5.LensTrees -/
def F.parlkeep5_LensTrees.r0 : List DOp := [
  ⟨some 2, .mv (.const (.bool false)), none, []⟩]
def F.parlkeep5_LensTrees.r1 : List DOp := [
  ⟨some 12, .mv (.tmp 0), none, []⟩,
  ⟨some 13, .call I.parlmake_Grammar [.tmp 12], none, []⟩,
  ⟨some 3, .alloc [.int .i64 0, .int .i64 0, .int .i64 0, .slice none 0 0], none, []⟩,
  ⟨none, .store 4 (.tmp 3) (.tmp 13), none, []⟩]
def F.parlkeep5_LensTrees.r2 : List DOp := [
  ⟨some 15, .call I.parlkeep5_plain [], none, []⟩,
  ⟨some 16, .call I.lens_Set [.tmp 15, .const (.int .i64 1)], none, []⟩,
  ⟨some 14, .mv (.tmp 16), none, []⟩,
  ⟨some 17, .extract (.tmp 14) 0, none, []⟩,
  ⟨some 18, .extract (.tmp 14) 1, none, []⟩,
  ⟨some 4, .mv (.tmp 17), none, []⟩,
  ⟨some 5, .mv (.tmp 18), none, []⟩]
def F.parlkeep5_LensTrees.r3 : List DOp := [
  ⟨some 19, .mv (.tmp 5), none, []⟩,
  ⟨some 20, .bin .neq (.tmp 19) (.const (.int .i64 0)), none, []⟩,
  ⟨some 21, .mv (.tmp 20), none, []⟩,
  ⟨some 22, .mv (.tmp 4), (some (21, false)), []⟩,
  ⟨some 23, .len (.tmp 22), (some (21, false)), []⟩,
  ⟨some 24, .bin .neq (.tmp 23) (.const (.int .i64 2)), (some (21, false)), []⟩,
  ⟨some 25, .pick (.tmp 21) (.const (.bool true)) (.tmp 24), none, []⟩,
  ⟨some 26, .mv (.tmp 25), none, []⟩,
  ⟨some 27, .mv (.tmp 4), (some (26, false)), []⟩,
  ⟨some 28, .idxs 1 (.tmp 27) (.const (.int .i64 1)), (some (26, false)), []⟩,
  ⟨some 29, .load 1 false (.tmp 28), (some (26, false)), []⟩,
  ⟨some 30, .un .not (.tmp 29), (some (26, false)), []⟩,
  ⟨some 31, .pick (.tmp 26) (.const (.bool true)) (.tmp 30), none, []⟩]
def F.parlkeep5_LensTrees.r4 : List DOp := [
  ⟨some 2, .mv (.const (.bool false)), none, []⟩]
def F.parlkeep5_LensTrees.r5 : List DOp := [
  ⟨some 33, .load 4 true (.tmp 3), none, []⟩,
  ⟨some 34, .call I.lens_Set [.tmp 33, .const (.int .i64 24)], none, []⟩,
  ⟨some 32, .mv (.tmp 34), none, []⟩,
  ⟨some 35, .extract (.tmp 32) 0, none, []⟩,
  ⟨some 36, .extract (.tmp 32) 1, none, []⟩,
  ⟨some 6, .mv (.tmp 35), none, []⟩,
  ⟨some 7, .mv (.tmp 36), none, []⟩]
def F.parlkeep5_LensTrees.r6 : List DOp := [
  ⟨some 38, .load 4 true (.tmp 3), none, []⟩,
  ⟨some 39, .call I.census_Trees [.tmp 38, .const (.int .i64 24)], none, []⟩,
  ⟨some 37, .mv (.tmp 39), none, []⟩,
  ⟨some 40, .extract (.tmp 37) 0, none, []⟩,
  ⟨some 41, .extract (.tmp 37) 1, none, []⟩,
  ⟨some 8, .mv (.tmp 40), none, []⟩,
  ⟨some 9, .mv (.tmp 41), none, []⟩]
def F.parlkeep5_LensTrees.r7 : List DOp := [
  ⟨some 42, .mv (.tmp 7), none, []⟩,
  ⟨some 43, .bin .neq (.tmp 42) (.const (.int .i64 0)), none, []⟩,
  ⟨some 44, .mv (.tmp 43), none, []⟩,
  ⟨some 45, .mv (.tmp 9), (some (44, false)), []⟩,
  ⟨some 46, .bin .neq (.tmp 45) (.const (.int .i64 0)), (some (44, false)), []⟩,
  ⟨some 47, .pick (.tmp 44) (.const (.bool true)) (.tmp 46), none, []⟩,
  ⟨some 48, .mv (.tmp 47), none, []⟩,
  ⟨some 49, .mv (.tmp 6), (some (48, false)), []⟩,
  ⟨some 50, .len (.tmp 49), (some (48, false)), []⟩,
  ⟨some 51, .bin .neq (.tmp 50) (.const (.int .i64 25)), (some (48, false)), []⟩,
  ⟨some 52, .pick (.tmp 48) (.const (.bool true)) (.tmp 51), none, []⟩]
def F.parlkeep5_LensTrees.r8 : List DOp := [
  ⟨some 2, .mv (.const (.bool false)), none, []⟩]
def F.parlkeep5_LensTrees.r9 : List DOp := [
  ⟨some 53, .mv (.tmp 6), none, []⟩,
  ⟨some 54, .len (.tmp 53), none, []⟩,
  ⟨some 55, .mv (.const (.int .i64 0)), none, []⟩]
def F.parlkeep5_LensTrees.r10 : List DOp := [
  ⟨some 56, .bin .lss (.tmp 55) (.tmp 54), none, []⟩]
def F.parlkeep5_LensTrees.r11 : List DOp := [
  ⟨some 57, .mv (.tmp 55), none, []⟩,
  ⟨some 58, .idxs 1 (.tmp 53) (.tmp 55), none, []⟩,
  ⟨some 59, .load 1 false (.tmp 58), none, []⟩,
  ⟨some 10, .mv (.tmp 57), none, []⟩,
  ⟨some 11, .mv (.tmp 59), none, []⟩]
def F.parlkeep5_LensTrees.r12 : List DOp := [
  ⟨some 60, .mv (.tmp 11), none, []⟩,
  ⟨some 61, .mv (.tmp 8), none, []⟩,
  ⟨some 62, .faddr 2 (.tmp 3), none, []⟩,
  ⟨some 63, .load 1 false (.tmp 62), none, []⟩,
  ⟨some 64, .idxs 1 (.tmp 61) (.tmp 63), none, []⟩,
  ⟨some 65, .load 1 false (.tmp 64), none, []⟩,
  ⟨some 66, .mv (.tmp 10), none, []⟩,
  ⟨some 67, .idxs 1 (.tmp 65) (.tmp 66), none, []⟩,
  ⟨some 68, .load 1 false (.tmp 67), none, []⟩,
  ⟨some 69, .bin .neq (.tmp 68) (.const (.int .i64 0)), none, []⟩,
  ⟨some 70, .eq true .bool (.tmp 60) (.tmp 69), none, []⟩]
def F.parlkeep5_LensTrees.r13 : List DOp := [
  ⟨some 2, .mv (.const (.bool false)), none, []⟩]
def F.parlkeep5_LensTrees.r14 : List DOp := [
  ⟨some 71, .bin .add (.tmp 55) (.const (.int .i64 1)), none, []⟩,
  ⟨some 55, .mv (.tmp 71), none, []⟩]
def F.parlkeep5_LensTrees.L0 : ACode := .seq (.region F.parlkeep5_LensTrees.r10) (.seq (.cond (.tmp 56) (.skip) (.exit 0)) (.seq (.block 1 (.seq (.region F.parlkeep5_LensTrees.r11) (.seq (.region F.parlkeep5_LensTrees.r12) (.cond (.tmp 70) (.seq (.region F.parlkeep5_LensTrees.r13) (.ret)) (.skip))))) (.region F.parlkeep5_LensTrees.r14)))
def F.parlkeep5_LensTrees.r15 : List DOp := [
  ⟨some 2, .mv (.const (.bool true)), none, []⟩]
def F.parlkeep5_LensTrees.c : ACode := .seq (.region F.parlkeep5_LensTrees.r0) (.seq (.region F.parlkeep5_LensTrees.r1) (.seq (.seq (.region F.parlkeep5_LensTrees.r2) (.seq (.region F.parlkeep5_LensTrees.r3) (.cond (.tmp 31) (.seq (.region F.parlkeep5_LensTrees.r4) (.ret)) (.skip)))) (.seq (.region F.parlkeep5_LensTrees.r5) (.seq (.region F.parlkeep5_LensTrees.r6) (.seq (.seq (.region F.parlkeep5_LensTrees.r7) (.cond (.tmp 52) (.seq (.region F.parlkeep5_LensTrees.r8) (.ret)) (.skip))) (.seq (.seq (.region F.parlkeep5_LensTrees.r9) (.block 0 (.loop F.parlkeep5_LensTrees.L0))) (.seq (.region F.parlkeep5_LensTrees.r15) (.ret))))))))
def F.parlkeep5_LensTrees : AFunc := ⟨F.parlkeep5_LensTrees.c, [.tmp 2]⟩
/-! parlance/parlkeep5.CensusMore -/
def F.parlkeep5_CensusMore.r0 : List DOp := [
  ⟨some 6, .mv (.const (.bool false)), none, []⟩]
def F.parlkeep5_CensusMore.r1 : List DOp := [
  ⟨some 17, .mv (.tmp 0), none, []⟩,
  ⟨some 18, .call I.parlmake_Grammar [.tmp 17], none, []⟩,
  ⟨some 7, .alloc [.int .i64 0, .int .i64 0, .int .i64 0, .slice none 0 0], none, []⟩,
  ⟨none, .store 4 (.tmp 7) (.tmp 18), none, []⟩]
def F.parlkeep5_CensusMore.r2 : List DOp := [
  ⟨some 19, .mv (.tmp 2), none, []⟩,
  ⟨some 20, .call I.parlkeep5_below [.tmp 19, .const (.int .i64 8)], none, []⟩,
  ⟨some 2, .mv (.tmp 20), none, []⟩]
def F.parlkeep5_CensusMore.r3 : List DOp := [
  ⟨some 21, .load 4 true (.tmp 7), none, []⟩,
  ⟨some 8, .alloc [.int .i64 0, .int .i64 0, .int .i64 0, .slice none 0 0], none, []⟩,
  ⟨none, .store 4 (.tmp 8) (.tmp 21), none, []⟩]
def F.parlkeep5_CensusMore.r4 : List DOp := [
  ⟨some 22, .mv (.tmp 1), none, []⟩,
  ⟨some 23, .faddr 3 (.tmp 7), none, []⟩,
  ⟨some 24, .load 1 false (.tmp 23), none, []⟩,
  ⟨some 25, .len (.tmp 24), none, []⟩,
  ⟨some 26, .call I.parlkeep5_below [.tmp 22, .tmp 25], none, []⟩,
  ⟨some 1, .mv (.tmp 26), none, []⟩]
def F.parlkeep5_CensusMore.r5 : List DOp := [
  ⟨some 27, .faddr 3 (.tmp 7), none, []⟩,
  ⟨some 28, .load 1 false (.tmp 27), none, []⟩,
  ⟨some 29, .mv (.tmp 1), none, []⟩,
  ⟨some 30, .slice 2 (.tmp 28) none (some (.tmp 29)), none, []⟩,
  ⟨some 31, .faddr 3 (.tmp 7), none, []⟩,
  ⟨some 32, .load 1 false (.tmp 31), none, []⟩,
  ⟨some 33, .mv (.tmp 1), none, []⟩,
  ⟨some 34, .bin .add (.tmp 33) (.const (.int .i64 1)), none, []⟩,
  ⟨some 35, .slice 2 (.tmp 32) (some (.tmp 34)) none, none, []⟩,
  ⟨some 36, .bslice 1 2 [.slice none 0 0, .slice none 0 0] [(0, 1, .tmp 30), (1, 1, .tmp 35)], none, []⟩,
  ⟨some 37, .call I.slices_Concat_api_Rule_api_Rule [.tmp 36], none, []⟩,
  ⟨some 38, .faddr 3 (.tmp 8), none, []⟩,
  ⟨none, .store 1 (.tmp 38) (.tmp 37), none, []⟩]
def F.parlkeep5_CensusMore.r6 : List DOp := [
  ⟨some 40, .load 4 true (.tmp 7), none, []⟩,
  ⟨some 41, .mv (.tmp 2), none, []⟩,
  ⟨some 42, .call I.census_Trees [.tmp 40, .tmp 41], none, []⟩,
  ⟨some 39, .mv (.tmp 42), none, []⟩,
  ⟨some 43, .extract (.tmp 39) 0, none, []⟩,
  ⟨some 44, .extract (.tmp 39) 1, none, []⟩,
  ⟨some 9, .mv (.tmp 43), none, []⟩,
  ⟨some 10, .mv (.tmp 44), none, []⟩]
def F.parlkeep5_CensusMore.r7 : List DOp := [
  ⟨some 46, .load 4 true (.tmp 8), none, []⟩,
  ⟨some 47, .mv (.tmp 2), none, []⟩,
  ⟨some 48, .call I.census_Trees [.tmp 46, .tmp 47], none, []⟩,
  ⟨some 45, .mv (.tmp 48), none, []⟩,
  ⟨some 49, .extract (.tmp 45) 0, none, []⟩,
  ⟨some 50, .extract (.tmp 45) 1, none, []⟩,
  ⟨some 11, .mv (.tmp 49), none, []⟩,
  ⟨some 12, .mv (.tmp 50), none, []⟩]
def F.parlkeep5_CensusMore.r8 : List DOp := [
  ⟨some 51, .call I.parlkeep5_counts [], none, []⟩,
  ⟨some 52, .un .not (.tmp 51), none, []⟩,
  ⟨some 53, .mv (.tmp 52), none, []⟩,
  ⟨some 54, .mv (.tmp 10), (some (53, false)), []⟩,
  ⟨some 55, .bin .neq (.tmp 54) (.const (.int .i64 0)), (some (53, false)), []⟩,
  ⟨some 56, .pick (.tmp 53) (.const (.bool true)) (.tmp 55), none, []⟩,
  ⟨some 57, .mv (.tmp 56), none, []⟩,
  ⟨some 58, .mv (.tmp 12), (some (57, false)), []⟩,
  ⟨some 59, .bin .neq (.tmp 58) (.const (.int .i64 0)), (some (57, false)), []⟩,
  ⟨some 60, .pick (.tmp 57) (.const (.bool true)) (.tmp 59), none, []⟩,
  ⟨some 61, .mv (.tmp 60), none, []⟩,
  ⟨some 62, .mv (.tmp 9), (some (61, false)), []⟩,
  ⟨some 63, .len (.tmp 62), (some (61, false)), []⟩,
  ⟨some 64, .mv (.tmp 11), (some (61, false)), []⟩,
  ⟨some 65, .len (.tmp 64), (some (61, false)), []⟩,
  ⟨some 66, .bin .neq (.tmp 63) (.tmp 65), (some (61, false)), []⟩,
  ⟨some 67, .pick (.tmp 61) (.const (.bool true)) (.tmp 66), none, []⟩]
def F.parlkeep5_CensusMore.r9 : List DOp := [
  ⟨some 6, .mv (.const (.bool false)), none, []⟩]
def F.parlkeep5_CensusMore.r10 : List DOp := [
  ⟨some 68, .mv (.tmp 9), none, []⟩,
  ⟨some 69, .len (.tmp 68), none, []⟩,
  ⟨some 70, .mv (.const (.int .i64 0)), none, []⟩]
def F.parlkeep5_CensusMore.r11 : List DOp := [
  ⟨some 71, .bin .lss (.tmp 70) (.tmp 69), none, []⟩]
def F.parlkeep5_CensusMore.r12 : List DOp := [
  ⟨some 72, .mv (.tmp 70), none, []⟩,
  ⟨some 13, .mv (.tmp 72), none, []⟩]
def F.parlkeep5_CensusMore.r13 : List DOp := [
  ⟨some 73, .mv (.tmp 9), none, []⟩,
  ⟨some 74, .mv (.tmp 13), none, []⟩,
  ⟨some 75, .idxs 1 (.tmp 73) (.tmp 74), none, []⟩,
  ⟨some 76, .load 1 false (.tmp 75), none, []⟩,
  ⟨some 77, .len (.tmp 76), none, []⟩,
  ⟨some 78, .mv (.const (.int .i64 0)), none, []⟩]
def F.parlkeep5_CensusMore.r14 : List DOp := [
  ⟨some 79, .bin .lss (.tmp 78) (.tmp 77), none, []⟩]
def F.parlkeep5_CensusMore.r15 : List DOp := [
  ⟨some 80, .mv (.tmp 78), none, []⟩,
  ⟨some 81, .idxs 1 (.tmp 76) (.tmp 78), none, []⟩,
  ⟨some 82, .load 1 false (.tmp 81), none, []⟩,
  ⟨some 14, .mv (.tmp 80), none, []⟩,
  ⟨some 15, .mv (.tmp 82), none, []⟩]
def F.parlkeep5_CensusMore.r16 : List DOp := [
  ⟨some 83, .mv (.tmp 11), none, []⟩,
  ⟨some 84, .mv (.tmp 13), none, []⟩,
  ⟨some 85, .idxs 1 (.tmp 83) (.tmp 84), none, []⟩,
  ⟨some 86, .load 1 false (.tmp 85), none, []⟩,
  ⟨some 87, .mv (.tmp 14), none, []⟩,
  ⟨some 88, .idxs 1 (.tmp 86) (.tmp 87), none, []⟩,
  ⟨some 89, .load 1 false (.tmp 88), none, []⟩,
  ⟨some 16, .mv (.tmp 89), none, []⟩]
def F.parlkeep5_CensusMore.r17 : List DOp := [
  ⟨some 90, .mv (.tmp 15), none, []⟩,
  ⟨some 91, .bin .neq (.tmp 90) (.const (.int .i64 (-1))), none, []⟩,
  ⟨some 92, .mv (.tmp 91), none, []⟩,
  ⟨some 93, .mv (.tmp 16), (some (92, true)), []⟩,
  ⟨some 94, .bin .eql (.tmp 93) (.const (.int .i64 (-1))), (some (92, true)), []⟩,
  ⟨some 95, .mv (.tmp 94), (some (92, true)), []⟩,
  ⟨some 96, .mv (.tmp 16), (some (95, false)), []⟩,
  ⟨some 97, .mv (.tmp 15), (some (95, false)), []⟩,
  ⟨some 98, .bin .gtr (.tmp 96) (.tmp 97), (some (95, false)), []⟩,
  ⟨some 99, .pick (.tmp 95) (.const (.bool true)) (.tmp 98), (some (92, true)), []⟩,
  ⟨some 100, .pick (.tmp 92) (.tmp 99) (.const (.bool false)), none, []⟩]
def F.parlkeep5_CensusMore.r18 : List DOp := [
  ⟨some 6, .mv (.const (.bool false)), none, []⟩]
def F.parlkeep5_CensusMore.r19 : List DOp := [
  ⟨some 101, .bin .add (.tmp 78) (.const (.int .i64 1)), none, []⟩,
  ⟨some 78, .mv (.tmp 101), none, []⟩]
def F.parlkeep5_CensusMore.L1 : ACode := .seq (.region F.parlkeep5_CensusMore.r14) (.seq (.cond (.tmp 79) (.skip) (.exit 2)) (.seq (.block 3 (.seq (.region F.parlkeep5_CensusMore.r15) (.seq (.region F.parlkeep5_CensusMore.r16) (.seq (.region F.parlkeep5_CensusMore.r17) (.cond (.tmp 100) (.seq (.region F.parlkeep5_CensusMore.r18) (.ret)) (.skip)))))) (.region F.parlkeep5_CensusMore.r19)))
def F.parlkeep5_CensusMore.r20 : List DOp := [
  ⟨some 102, .bin .add (.tmp 70) (.const (.int .i64 1)), none, []⟩,
  ⟨some 70, .mv (.tmp 102), none, []⟩]
def F.parlkeep5_CensusMore.L0 : ACode := .seq (.region F.parlkeep5_CensusMore.r11) (.seq (.cond (.tmp 71) (.skip) (.exit 0)) (.seq (.block 1 (.seq (.region F.parlkeep5_CensusMore.r12) (.seq (.region F.parlkeep5_CensusMore.r13) (.block 2 (.loop F.parlkeep5_CensusMore.L1))))) (.region F.parlkeep5_CensusMore.r20)))
def F.parlkeep5_CensusMore.r21 : List DOp := [
  ⟨some 6, .mv (.const (.bool true)), none, []⟩]
def F.parlkeep5_CensusMore.c : ACode := .seq (.region F.parlkeep5_CensusMore.r0) (.seq (.region F.parlkeep5_CensusMore.r1) (.seq (.region F.parlkeep5_CensusMore.r2) (.seq (.region F.parlkeep5_CensusMore.r3) (.seq (.region F.parlkeep5_CensusMore.r4) (.seq (.draw F.parlkeep5_CensusMore.r5 []) (.seq (.region F.parlkeep5_CensusMore.r6) (.seq (.region F.parlkeep5_CensusMore.r7) (.seq (.seq (.region F.parlkeep5_CensusMore.r8) (.cond (.tmp 67) (.seq (.region F.parlkeep5_CensusMore.r9) (.ret)) (.skip))) (.seq (.seq (.region F.parlkeep5_CensusMore.r10) (.block 0 (.loop F.parlkeep5_CensusMore.L0))) (.seq (.region F.parlkeep5_CensusMore.r21) (.ret)))))))))))
def F.parlkeep5_CensusMore : AFunc := ⟨F.parlkeep5_CensusMore.c, [.tmp 6]⟩
/-! parlance/parlkeep5.CensusLeast -/
def F.parlkeep5_CensusLeast.r0 : List DOp := [
  ⟨some 2, .mv (.const (.bool false)), none, []⟩]
def F.parlkeep5_CensusLeast.r1 : List DOp := [
  ⟨some 11, .mv (.tmp 0), none, []⟩,
  ⟨some 12, .call I.parlmake_Grammar [.tmp 11], none, []⟩,
  ⟨some 3, .alloc [.int .i64 0, .int .i64 0, .int .i64 0, .slice none 0 0], none, []⟩,
  ⟨none, .store 4 (.tmp 3) (.tmp 12), none, []⟩]
def F.parlkeep5_CensusLeast.r2 : List DOp := [
  ⟨some 14, .load 4 true (.tmp 3), none, []⟩,
  ⟨some 15, .call I.census_Least [.tmp 14], none, []⟩,
  ⟨some 13, .mv (.tmp 15), none, []⟩,
  ⟨some 16, .extract (.tmp 13) 0, none, []⟩,
  ⟨some 17, .extract (.tmp 13) 1, none, []⟩,
  ⟨some 4, .mv (.tmp 16), none, []⟩,
  ⟨some 5, .mv (.tmp 17), none, []⟩]
def F.parlkeep5_CensusLeast.r3 : List DOp := [
  ⟨some 19, .load 4 true (.tmp 3), none, []⟩,
  ⟨some 20, .call I.census_Trees [.tmp 19, .const (.int .i64 24)], none, []⟩,
  ⟨some 18, .mv (.tmp 20), none, []⟩,
  ⟨some 21, .extract (.tmp 18) 0, none, []⟩,
  ⟨some 22, .extract (.tmp 18) 1, none, []⟩,
  ⟨some 6, .mv (.tmp 21), none, []⟩,
  ⟨some 7, .mv (.tmp 22), none, []⟩]
def F.parlkeep5_CensusLeast.r4 : List DOp := [
  ⟨some 23, .call I.parlkeep5_counts [], none, []⟩,
  ⟨some 24, .un .not (.tmp 23), none, []⟩,
  ⟨some 25, .mv (.tmp 24), none, []⟩,
  ⟨some 26, .mv (.tmp 5), (some (25, false)), []⟩,
  ⟨some 27, .bin .neq (.tmp 26) (.const (.int .i64 0)), (some (25, false)), []⟩,
  ⟨some 28, .pick (.tmp 25) (.const (.bool true)) (.tmp 27), none, []⟩,
  ⟨some 29, .mv (.tmp 28), none, []⟩,
  ⟨some 30, .mv (.tmp 7), (some (29, false)), []⟩,
  ⟨some 31, .bin .neq (.tmp 30) (.const (.int .i64 0)), (some (29, false)), []⟩,
  ⟨some 32, .pick (.tmp 29) (.const (.bool true)) (.tmp 31), none, []⟩,
  ⟨some 33, .mv (.tmp 32), none, []⟩,
  ⟨some 34, .mv (.tmp 4), (some (33, false)), []⟩,
  ⟨some 35, .len (.tmp 34), (some (33, false)), []⟩,
  ⟨some 36, .faddr 1 (.tmp 3), (some (33, false)), []⟩,
  ⟨some 37, .load 1 false (.tmp 36), (some (33, false)), []⟩,
  ⟨some 38, .bin .neq (.tmp 35) (.tmp 37), (some (33, false)), []⟩,
  ⟨some 39, .pick (.tmp 33) (.const (.bool true)) (.tmp 38), none, []⟩,
  ⟨some 40, .mv (.tmp 39), none, []⟩,
  ⟨some 41, .mv (.tmp 6), (some (40, false)), []⟩,
  ⟨some 42, .len (.tmp 41), (some (40, false)), []⟩,
  ⟨some 43, .faddr 1 (.tmp 3), (some (40, false)), []⟩,
  ⟨some 44, .load 1 false (.tmp 43), (some (40, false)), []⟩,
  ⟨some 45, .bin .neq (.tmp 42) (.tmp 44), (some (40, false)), []⟩,
  ⟨some 46, .pick (.tmp 40) (.const (.bool true)) (.tmp 45), none, []⟩]
def F.parlkeep5_CensusLeast.r5 : List DOp := [
  ⟨some 2, .mv (.const (.bool false)), none, []⟩]
def F.parlkeep5_CensusLeast.r6 : List DOp := [
  ⟨some 47, .mv (.tmp 4), none, []⟩,
  ⟨some 48, .len (.tmp 47), none, []⟩,
  ⟨some 49, .mv (.const (.int .i64 0)), none, []⟩]
def F.parlkeep5_CensusLeast.r7 : List DOp := [
  ⟨some 50, .bin .lss (.tmp 49) (.tmp 48), none, []⟩]
def F.parlkeep5_CensusLeast.r8 : List DOp := [
  ⟨some 51, .mv (.tmp 49), none, []⟩,
  ⟨some 52, .idxs 1 (.tmp 47) (.tmp 49), none, []⟩,
  ⟨some 53, .load 1 false (.tmp 52), none, []⟩,
  ⟨some 8, .mv (.tmp 51), none, []⟩,
  ⟨some 9, .mv (.tmp 53), none, []⟩]
def F.parlkeep5_CensusLeast.r9 : List DOp := [
  ⟨some 54, .mv (.tmp 6), none, []⟩,
  ⟨some 55, .mv (.tmp 8), none, []⟩,
  ⟨some 56, .idxs 1 (.tmp 54) (.tmp 55), none, []⟩,
  ⟨some 57, .load 1 false (.tmp 56), none, []⟩,
  ⟨some 58, .call I.slices_IndexFunc_int_int [.tmp 57, .func I.parlkeep5_CensusLeast_1], none, []⟩,
  ⟨some 10, .mv (.tmp 58), none, []⟩]
def F.parlkeep5_CensusLeast.r10 : List DOp := [
  ⟨some 59, .mv (.tmp 9), none, []⟩,
  ⟨some 60, .bin .leq (.tmp 59) (.const (.int .i64 24)), none, []⟩,
  ⟨some 61, .mv (.tmp 60), none, []⟩,
  ⟨some 62, .mv (.tmp 10), (some (61, true)), []⟩,
  ⟨some 63, .mv (.tmp 9), (some (61, true)), []⟩,
  ⟨some 64, .bin .neq (.tmp 62) (.tmp 63), (some (61, true)), []⟩,
  ⟨some 65, .pick (.tmp 61) (.tmp 64) (.const (.bool false)), none, []⟩,
  ⟨some 66, .mv (.tmp 65), none, []⟩,
  ⟨some 67, .mv (.tmp 9), (some (66, false)), []⟩,
  ⟨some 68, .bin .gtr (.tmp 67) (.const (.int .i64 24)), (some (66, false)), []⟩,
  ⟨some 69, .mv (.tmp 68), (some (66, false)), []⟩,
  ⟨some 70, .mv (.tmp 10), (some (69, true)), []⟩,
  ⟨some 71, .bin .geq (.tmp 70) (.const (.int .i64 0)), (some (69, true)), []⟩,
  ⟨some 72, .pick (.tmp 69) (.tmp 71) (.const (.bool false)), (some (66, false)), []⟩,
  ⟨some 73, .pick (.tmp 66) (.const (.bool true)) (.tmp 72), none, []⟩]
def F.parlkeep5_CensusLeast.r11 : List DOp := [
  ⟨some 2, .mv (.const (.bool false)), none, []⟩]
def F.parlkeep5_CensusLeast.r12 : List DOp := [
  ⟨some 74, .bin .add (.tmp 49) (.const (.int .i64 1)), none, []⟩,
  ⟨some 49, .mv (.tmp 74), none, []⟩]
def F.parlkeep5_CensusLeast.L0 : ACode := .seq (.region F.parlkeep5_CensusLeast.r7) (.seq (.cond (.tmp 50) (.skip) (.exit 0)) (.seq (.block 1 (.seq (.region F.parlkeep5_CensusLeast.r8) (.seq (.region F.parlkeep5_CensusLeast.r9) (.seq (.region F.parlkeep5_CensusLeast.r10) (.cond (.tmp 73) (.seq (.region F.parlkeep5_CensusLeast.r11) (.ret)) (.skip)))))) (.region F.parlkeep5_CensusLeast.r12)))
def F.parlkeep5_CensusLeast.r13 : List DOp := [
  ⟨some 2, .mv (.const (.bool true)), none, []⟩]
def F.parlkeep5_CensusLeast.c : ACode := .seq (.region F.parlkeep5_CensusLeast.r0) (.seq (.region F.parlkeep5_CensusLeast.r1) (.seq (.region F.parlkeep5_CensusLeast.r2) (.seq (.region F.parlkeep5_CensusLeast.r3) (.seq (.seq (.region F.parlkeep5_CensusLeast.r4) (.cond (.tmp 46) (.seq (.region F.parlkeep5_CensusLeast.r5) (.ret)) (.skip))) (.seq (.seq (.region F.parlkeep5_CensusLeast.r6) (.block 0 (.loop F.parlkeep5_CensusLeast.L0))) (.seq (.region F.parlkeep5_CensusLeast.r13) (.ret)))))))
def F.parlkeep5_CensusLeast : AFunc := ⟨F.parlkeep5_CensusLeast.c, [.tmp 2]⟩
/-! parlance/parlkeep5.RankFirst -/
def F.parlkeep5_RankFirst.r0 : List DOp := [
  ⟨some 6, .mv (.const (.bool false)), none, []⟩]
def F.parlkeep5_RankFirst.r1 : List DOp := [
  ⟨some 19, .mv (.tmp 0), none, []⟩,
  ⟨some 20, .call I.parlmake_Grammar [.tmp 19], none, []⟩,
  ⟨some 7, .alloc [.int .i64 0, .int .i64 0, .int .i64 0, .slice none 0 0], none, []⟩,
  ⟨none, .store 4 (.tmp 7) (.tmp 20), none, []⟩]
def F.parlkeep5_RankFirst.r2 : List DOp := [
  ⟨some 21, .mv (.tmp 1), none, []⟩,
  ⟨some 22, .call I.parlkeep5_below [.tmp 21, .const (.int .i64 8)], none, []⟩,
  ⟨some 1, .mv (.tmp 22), none, []⟩]
def F.parlkeep5_RankFirst.r3 : List DOp := [
  ⟨some 24, .call I.parlkeep5_plain [], none, []⟩,
  ⟨some 25, .call I.rank_Count [.tmp 24, .const (.int .i64 3)], none, []⟩,
  ⟨some 23, .mv (.tmp 25), none, []⟩,
  ⟨some 26, .extract (.tmp 23) 0, none, []⟩,
  ⟨some 27, .extract (.tmp 23) 1, none, []⟩,
  ⟨some 8, .mv (.tmp 26), none, []⟩,
  ⟨some 9, .mv (.tmp 27), none, []⟩]
def F.parlkeep5_RankFirst.r4 : List DOp := [
  ⟨some 28, .mv (.tmp 8), none, []⟩,
  ⟨some 29, .bin .neq (.tmp 28) (.const (.int .i64 1)), none, []⟩,
  ⟨some 30, .mv (.tmp 29), none, []⟩,
  ⟨some 31, .mv (.tmp 9), (some (30, false)), []⟩,
  ⟨some 32, .bin .neq (.tmp 31) (.const (.int .i64 0)), (some (30, false)), []⟩,
  ⟨some 33, .pick (.tmp 30) (.const (.bool true)) (.tmp 32), none, []⟩]
def F.parlkeep5_RankFirst.r5 : List DOp := [
  ⟨some 6, .mv (.const (.bool false)), none, []⟩]
def F.parlkeep5_RankFirst.r6 : List DOp := [
  ⟨some 35, .load 4 true (.tmp 7), none, []⟩,
  ⟨some 36, .mv (.tmp 1), none, []⟩,
  ⟨some 37, .call I.rank_Count [.tmp 35, .tmp 36], none, []⟩,
  ⟨some 34, .mv (.tmp 37), none, []⟩,
  ⟨some 38, .extract (.tmp 34) 0, none, []⟩,
  ⟨some 39, .extract (.tmp 34) 1, none, []⟩,
  ⟨some 10, .mv (.tmp 38), none, []⟩,
  ⟨some 11, .mv (.tmp 39), none, []⟩]
def F.parlkeep5_RankFirst.r7 : List DOp := [
  ⟨some 40, .mv (.tmp 11), none, []⟩,
  ⟨some 41, .bin .neq (.tmp 40) (.const (.int .i64 0)), none, []⟩,
  ⟨some 42, .mv (.tmp 41), none, []⟩,
  ⟨some 43, .mv (.tmp 10), (some (42, false)), []⟩,
  ⟨some 44, .bin .lss (.tmp 43) (.const (.int .i64 2)), (some (42, false)), []⟩,
  ⟨some 45, .pick (.tmp 42) (.const (.bool true)) (.tmp 44), none, []⟩]
def F.parlkeep5_RankFirst.r8 : List DOp := [
  ⟨some 6, .mv (.const (.bool true)), none, []⟩]
def F.parlkeep5_RankFirst.r9 : List DOp := [
  ⟨some 46, .mv (.tmp 2), none, []⟩,
  ⟨some 47, .mv (.tmp 10), none, []⟩,
  ⟨some 48, .bin .sub (.tmp 47) (.const (.int .i64 1)), none, []⟩,
  ⟨some 49, .call I.parlkeep5_below [.tmp 46, .tmp 48], none, []⟩,
  ⟨some 2, .mv (.tmp 49), none, []⟩]
def F.parlkeep5_RankFirst.r10 : List DOp := [
  ⟨some 51, .load 4 true (.tmp 7), none, []⟩,
  ⟨some 52, .mv (.tmp 1), none, []⟩,
  ⟨some 53, .mv (.tmp 2), none, []⟩,
  ⟨some 54, .call I.rank_Tree [.tmp 51, .tmp 52, .tmp 53], none, []⟩,
  ⟨some 50, .mv (.tmp 54), none, []⟩,
  ⟨some 55, .extract (.tmp 50) 0, none, []⟩,
  ⟨some 56, .extract (.tmp 50) 1, none, []⟩,
  ⟨some 12, .alloc [.int .i64 0, .int .i64 0, .slice none 0 0], none, []⟩,
  ⟨none, .store 3 (.tmp 12) (.tmp 55), none, []⟩,
  ⟨some 11, .mv (.tmp 56), none, []⟩]
def F.parlkeep5_RankFirst.r11 : List DOp := [
  ⟨some 58, .load 4 true (.tmp 7), none, []⟩,
  ⟨some 59, .mv (.tmp 1), none, []⟩,
  ⟨some 60, .mv (.tmp 2), none, []⟩,
  ⟨some 61, .bin .add (.tmp 60) (.const (.int .i64 1)), none, []⟩,
  ⟨some 62, .call I.rank_Tree [.tmp 58, .tmp 59, .tmp 61], none, []⟩,
  ⟨some 57, .mv (.tmp 62), none, []⟩,
  ⟨some 63, .extract (.tmp 57) 0, none, []⟩,
  ⟨some 64, .extract (.tmp 57) 1, none, []⟩,
  ⟨some 13, .alloc [.int .i64 0, .int .i64 0, .slice none 0 0], none, []⟩,
  ⟨none, .store 3 (.tmp 13) (.tmp 63), none, []⟩,
  ⟨some 14, .mv (.tmp 64), none, []⟩]
def F.parlkeep5_RankFirst.r12 : List DOp := [
  ⟨some 66, .load 4 true (.tmp 7), none, []⟩,
  ⟨some 67, .mv (.tmp 1), none, []⟩,
  ⟨some 68, .mv (.tmp 10), none, []⟩,
  ⟨some 69, .call I.rank_Tree [.tmp 66, .tmp 67, .tmp 68], none, []⟩,
  ⟨some 65, .mv (.tmp 69), none, []⟩,
  ⟨some 70, .extract (.tmp 65) 0, none, []⟩,
  ⟨some 71, .extract (.tmp 65) 1, none, []⟩,
  ⟨some 15, .alloc [.int .i64 0, .int .i64 0, .slice none 0 0], none, []⟩,
  ⟨none, .store 3 (.tmp 15) (.tmp 70), none, []⟩,
  ⟨some 16, .mv (.tmp 71), none, []⟩]
def F.parlkeep5_RankFirst.r13 : List DOp := [
  ⟨some 73, .load 4 true (.tmp 7), none, []⟩,
  ⟨some 74, .mv (.tmp 1), none, []⟩,
  ⟨some 75, .call I.rank_Tree [.tmp 73, .tmp 74, .const (.int .i64 (-1))], none, []⟩,
  ⟨some 72, .mv (.tmp 75), none, []⟩,
  ⟨some 76, .extract (.tmp 72) 0, none, []⟩,
  ⟨some 77, .extract (.tmp 72) 1, none, []⟩,
  ⟨some 17, .alloc [.int .i64 0, .int .i64 0, .slice none 0 0], none, []⟩,
  ⟨none, .store 3 (.tmp 17) (.tmp 76), none, []⟩,
  ⟨some 18, .mv (.tmp 77), none, []⟩]
def F.parlkeep5_RankFirst.r14 : List DOp := [
  ⟨some 78, .mv (.tmp 11), none, []⟩,
  ⟨some 79, .bin .eql (.tmp 78) (.const (.int .i64 0)), none, []⟩,
  ⟨some 80, .mv (.tmp 79), none, []⟩,
  ⟨some 81, .mv (.tmp 14), (some (80, true)), []⟩,
  ⟨some 82, .bin .eql (.tmp 81) (.const (.int .i64 0)), (some (80, true)), []⟩,
  ⟨some 83, .pick (.tmp 80) (.tmp 82) (.const (.bool false)), none, []⟩,
  ⟨some 84, .mv (.tmp 83), none, []⟩,
  ⟨some 85, .mv (.tmp 16), (some (84, true)), []⟩,
  ⟨some 86, .bin .eql (.tmp 85) (.const (.int .i64 5)), (some (84, true)), []⟩,
  ⟨some 87, .pick (.tmp 84) (.tmp 86) (.const (.bool false)), none, []⟩,
  ⟨some 88, .mv (.tmp 87), none, []⟩,
  ⟨some 89, .mv (.tmp 18), (some (88, true)), []⟩,
  ⟨some 90, .bin .eql (.tmp 89) (.const (.int .i64 5)), (some (88, true)), []⟩,
  ⟨some 91, .pick (.tmp 88) (.tmp 90) (.const (.bool false)), none, []⟩,
  ⟨some 92, .mv (.tmp 91), none, []⟩,
  ⟨some 93, .faddr 0 (.tmp 12), (some (92, true)), []⟩,
  ⟨some 94, .load 1 false (.tmp 93), (some (92, true)), []⟩,
  ⟨some 95, .faddr 0 (.tmp 13), (some (92, true)), []⟩,
  ⟨some 96, .load 1 false (.tmp 95), (some (92, true)), []⟩,
  ⟨some 97, .bin .leq (.tmp 94) (.tmp 96), (some (92, true)), []⟩,
  ⟨some 98, .pick (.tmp 92) (.tmp 97) (.const (.bool false)), none, []⟩,
  ⟨some 6, .mv (.tmp 98), none, []⟩]
def F.parlkeep5_RankFirst.c : ACode := .seq (.region F.parlkeep5_RankFirst.r0) (.seq (.region F.parlkeep5_RankFirst.r1) (.seq (.region F.parlkeep5_RankFirst.r2) (.seq (.seq (.region F.parlkeep5_RankFirst.r3) (.seq (.region F.parlkeep5_RankFirst.r4) (.cond (.tmp 33) (.seq (.region F.parlkeep5_RankFirst.r5) (.ret)) (.skip)))) (.seq (.region F.parlkeep5_RankFirst.r6) (.seq (.seq (.region F.parlkeep5_RankFirst.r7) (.cond (.tmp 45) (.seq (.region F.parlkeep5_RankFirst.r8) (.ret)) (.skip))) (.seq (.region F.parlkeep5_RankFirst.r9) (.seq (.region F.parlkeep5_RankFirst.r10) (.seq (.region F.parlkeep5_RankFirst.r11) (.seq (.region F.parlkeep5_RankFirst.r12) (.seq (.region F.parlkeep5_RankFirst.r13) (.seq (.region F.parlkeep5_RankFirst.r14) (.ret))))))))))))
def F.parlkeep5_RankFirst : AFunc := ⟨F.parlkeep5_RankFirst.c, [.tmp 6]⟩
/-! parlance/parlkeep5.RankBack -/
def F.parlkeep5_RankBack.r0 : List DOp := [
  ⟨some 6, .mv (.const (.bool false)), none, []⟩]
def F.parlkeep5_RankBack.r1 : List DOp := [
  ⟨some 16, .mv (.tmp 0), none, []⟩,
  ⟨some 17, .call I.parlmake_Grammar [.tmp 16], none, []⟩,
  ⟨some 7, .alloc [.int .i64 0, .int .i64 0, .int .i64 0, .slice none 0 0], none, []⟩,
  ⟨none, .store 4 (.tmp 7) (.tmp 17), none, []⟩]
def F.parlkeep5_RankBack.r2 : List DOp := [
  ⟨some 18, .mv (.tmp 1), none, []⟩,
  ⟨some 19, .call I.parlkeep5_below [.tmp 18, .const (.int .i64 8)], none, []⟩,
  ⟨some 1, .mv (.tmp 19), none, []⟩]
def F.parlkeep5_RankBack.r3 : List DOp := [
  ⟨some 21, .call I.parlkeep5_plain [], none, []⟩,
  ⟨some 22, .call I.rank_Count [.tmp 21, .const (.int .i64 3)], none, []⟩,
  ⟨some 20, .mv (.tmp 22), none, []⟩,
  ⟨some 23, .extract (.tmp 20) 0, none, []⟩,
  ⟨some 24, .extract (.tmp 20) 1, none, []⟩,
  ⟨some 8, .mv (.tmp 23), none, []⟩,
  ⟨some 9, .mv (.tmp 24), none, []⟩]
def F.parlkeep5_RankBack.r4 : List DOp := [
  ⟨some 25, .mv (.tmp 8), none, []⟩,
  ⟨some 26, .bin .neq (.tmp 25) (.const (.int .i64 1)), none, []⟩,
  ⟨some 27, .mv (.tmp 26), none, []⟩,
  ⟨some 28, .mv (.tmp 9), (some (27, false)), []⟩,
  ⟨some 29, .bin .neq (.tmp 28) (.const (.int .i64 0)), (some (27, false)), []⟩,
  ⟨some 30, .pick (.tmp 27) (.const (.bool true)) (.tmp 29), none, []⟩]
def F.parlkeep5_RankBack.r5 : List DOp := [
  ⟨some 6, .mv (.const (.bool false)), none, []⟩]
def F.parlkeep5_RankBack.r6 : List DOp := [
  ⟨some 32, .load 4 true (.tmp 7), none, []⟩,
  ⟨some 33, .mv (.tmp 1), none, []⟩,
  ⟨some 34, .call I.rank_Count [.tmp 32, .tmp 33], none, []⟩,
  ⟨some 31, .mv (.tmp 34), none, []⟩,
  ⟨some 35, .extract (.tmp 31) 0, none, []⟩,
  ⟨some 36, .extract (.tmp 31) 1, none, []⟩,
  ⟨some 10, .mv (.tmp 35), none, []⟩,
  ⟨some 11, .mv (.tmp 36), none, []⟩]
def F.parlkeep5_RankBack.r7 : List DOp := [
  ⟨some 37, .mv (.tmp 11), none, []⟩,
  ⟨some 38, .bin .neq (.tmp 37) (.const (.int .i64 0)), none, []⟩,
  ⟨some 39, .mv (.tmp 38), none, []⟩,
  ⟨some 40, .mv (.tmp 10), (some (39, false)), []⟩,
  ⟨some 41, .bin .eql (.tmp 40) (.const (.int .i64 0)), (some (39, false)), []⟩,
  ⟨some 42, .pick (.tmp 39) (.const (.bool true)) (.tmp 41), none, []⟩]
def F.parlkeep5_RankBack.r8 : List DOp := [
  ⟨some 6, .mv (.const (.bool true)), none, []⟩]
def F.parlkeep5_RankBack.r9 : List DOp := [
  ⟨some 43, .mv (.tmp 2), none, []⟩,
  ⟨some 44, .mv (.tmp 10), none, []⟩,
  ⟨some 45, .call I.parlkeep5_below [.tmp 43, .tmp 44], none, []⟩,
  ⟨some 2, .mv (.tmp 45), none, []⟩]
def F.parlkeep5_RankBack.r10 : List DOp := [
  ⟨some 47, .load 4 true (.tmp 7), none, []⟩,
  ⟨some 48, .mv (.tmp 1), none, []⟩,
  ⟨some 49, .mv (.tmp 2), none, []⟩,
  ⟨some 50, .call I.rank_Tree [.tmp 47, .tmp 48, .tmp 49], none, []⟩,
  ⟨some 46, .mv (.tmp 50), none, []⟩,
  ⟨some 51, .extract (.tmp 46) 0, none, []⟩,
  ⟨some 52, .extract (.tmp 46) 1, none, []⟩,
  ⟨some 12, .alloc [.int .i64 0, .int .i64 0, .slice none 0 0], none, []⟩,
  ⟨none, .store 3 (.tmp 12) (.tmp 51), none, []⟩,
  ⟨some 11, .mv (.tmp 52), none, []⟩]
def F.parlkeep5_RankBack.r11 : List DOp := [
  ⟨some 53, .mv (.tmp 11), none, []⟩,
  ⟨some 54, .bin .neq (.tmp 53) (.const (.int .i64 0)), none, []⟩,
  ⟨some 55, .mv (.tmp 54), none, []⟩,
  ⟨some 56, .load 4 true (.tmp 7), (some (55, false)), []⟩,
  ⟨some 57, .load 3 true (.tmp 12), (some (55, false)), []⟩,
  ⟨some 58, .call I.tree_Check [.tmp 56, .tmp 57], (some (55, false)), []⟩,
  ⟨some 59, .bin .neq (.tmp 58) (.const (.int .i64 0)), (some (55, false)), []⟩,
  ⟨some 60, .pick (.tmp 55) (.const (.bool true)) (.tmp 59), none, []⟩]
def F.parlkeep5_RankBack.r12 : List DOp := [
  ⟨some 6, .mv (.const (.bool false)), none, []⟩]
def F.parlkeep5_RankBack.r13 : List DOp := [
  ⟨some 62, .load 4 true (.tmp 7), none, []⟩,
  ⟨some 63, .load 3 true (.tmp 12), none, []⟩,
  ⟨some 64, .call I.rank_Of [.tmp 62, .tmp 63], none, []⟩,
  ⟨some 61, .mv (.tmp 64), none, []⟩,
  ⟨some 65, .extract (.tmp 61) 0, none, []⟩,
  ⟨some 66, .extract (.tmp 61) 1, none, []⟩,
  ⟨some 67, .extract (.tmp 61) 2, none, []⟩,
  ⟨some 13, .mv (.tmp 65), none, []⟩,
  ⟨some 14, .mv (.tmp 66), none, []⟩,
  ⟨some 15, .mv (.tmp 67), none, []⟩]
def F.parlkeep5_RankBack.r14 : List DOp := [
  ⟨some 68, .mv (.tmp 15), none, []⟩,
  ⟨some 69, .bin .eql (.tmp 68) (.const (.int .i64 0)), none, []⟩,
  ⟨some 70, .mv (.tmp 69), none, []⟩,
  ⟨some 71, .mv (.tmp 13), (some (70, true)), []⟩,
  ⟨some 72, .mv (.tmp 1), (some (70, true)), []⟩,
  ⟨some 73, .bin .eql (.tmp 71) (.tmp 72), (some (70, true)), []⟩,
  ⟨some 74, .pick (.tmp 70) (.tmp 73) (.const (.bool false)), none, []⟩,
  ⟨some 75, .mv (.tmp 74), none, []⟩,
  ⟨some 76, .mv (.tmp 14), (some (75, true)), []⟩,
  ⟨some 77, .mv (.tmp 2), (some (75, true)), []⟩,
  ⟨some 78, .bin .eql (.tmp 76) (.tmp 77), (some (75, true)), []⟩,
  ⟨some 79, .pick (.tmp 75) (.tmp 78) (.const (.bool false)), none, []⟩,
  ⟨some 6, .mv (.tmp 79), none, []⟩]
def F.parlkeep5_RankBack.c : ACode := .seq (.region F.parlkeep5_RankBack.r0) (.seq (.region F.parlkeep5_RankBack.r1) (.seq (.region F.parlkeep5_RankBack.r2) (.seq (.seq (.region F.parlkeep5_RankBack.r3) (.seq (.region F.parlkeep5_RankBack.r4) (.cond (.tmp 30) (.seq (.region F.parlkeep5_RankBack.r5) (.ret)) (.skip)))) (.seq (.region F.parlkeep5_RankBack.r6) (.seq (.seq (.region F.parlkeep5_RankBack.r7) (.cond (.tmp 42) (.seq (.region F.parlkeep5_RankBack.r8) (.ret)) (.skip))) (.seq (.region F.parlkeep5_RankBack.r9) (.seq (.region F.parlkeep5_RankBack.r10) (.seq (.seq (.region F.parlkeep5_RankBack.r11) (.cond (.tmp 60) (.seq (.region F.parlkeep5_RankBack.r12) (.ret)) (.skip))) (.seq (.region F.parlkeep5_RankBack.r13) (.seq (.region F.parlkeep5_RankBack.r14) (.ret)))))))))))
def F.parlkeep5_RankBack : AFunc := ⟨F.parlkeep5_RankBack.c, [.tmp 6]⟩
/-! parlance/parlkeep5.plain -/
def F.parlkeep5_plain.r0 : List DOp := [
  ⟨some 0, .alloc [.int .i64 0, .int .i64 0, .int .i64 0, .slice none 0 0], none, []⟩]
def F.parlkeep5_plain.r1 : List DOp := [
  ⟨some 1, .build [.bool false, .int .i64 0] [(0, 1, .const (.bool true))], none, []⟩,
  ⟨some 2, .bslice 2 1 [.bool false, .int .i64 0] [(0, 2, .tmp 1)], none, []⟩,
  ⟨some 3, .build [.int .i64 0, .slice none 0 0] [(1, 1, .tmp 2)], none, []⟩,
  ⟨some 4, .build [.bool false, .int .i64 0] [(0, 1, .const (.bool true)), (1, 1, .const (.int .i64 1))], none, []⟩,
  ⟨some 5, .build [.bool false, .int .i64 0] [], none, []⟩,
  ⟨some 6, .bslice 2 2 [.bool false, .int .i64 0, .bool false, .int .i64 0] [(0, 2, .tmp 4), (2, 2, .tmp 5)], none, []⟩,
  ⟨some 7, .build [.int .i64 0, .slice none 0 0] [(1, 1, .tmp 6)], none, []⟩,
  ⟨some 8, .bslice 2 2 [.int .i64 0, .slice none 0 0, .int .i64 0, .slice none 0 0] [(0, 2, .tmp 3), (2, 2, .tmp 7)], none, []⟩,
  ⟨some 9, .build [.int .i64 0, .int .i64 0, .int .i64 0, .slice none 0 0] [(0, 1, .const (.int .i64 2)), (1, 1, .const (.int .i64 1)), (3, 1, .tmp 8)], none, []⟩,
  ⟨none, .store 4 (.tmp 0) (.tmp 9), none, []⟩]
def F.parlkeep5_plain.c : ACode := .seq (.region F.parlkeep5_plain.r0) (.seq (.region F.parlkeep5_plain.r1) (.ret))
def F.parlkeep5_plain : AFunc := ⟨F.parlkeep5_plain.c, [.cell 0 4 true]⟩
/-! parlance/parlkeep5.below -/
def F.parlkeep5_below.r0 : List DOp := [
  ⟨some 4, .mv (.const (.int .i64 0)), none, []⟩]
def F.parlkeep5_below.r1 : List DOp := [
  ⟨some 5, .mv (.tmp 0), none, []⟩,
  ⟨some 6, .mv (.tmp 1), none, []⟩,
  ⟨some 7, .call I.parlmake_Below [.tmp 5, .tmp 6], none, []⟩,
  ⟨some 4, .mv (.tmp 7), none, []⟩]
def F.parlkeep5_below.c : ACode := .seq (.region F.parlkeep5_below.r0) (.seq (.region F.parlkeep5_below.r1) (.ret))
def F.parlkeep5_below : AFunc := ⟨F.parlkeep5_below.c, [.tmp 4]⟩
/-! parlance/parlkeep5.ShrinkTree$1 -/
def F.parlkeep5_ShrinkTree_1.r0 : List DOp := [
  ⟨some 2, .box (.tmp 0), none, []⟩,
  ⟨some 3, .mv (.const (.bool false)), none, []⟩]
def F.parlkeep5_ShrinkTree_1.r1 : List DOp := [
  ⟨some 4, .load 3 true (.tmp 2), none, []⟩,
  ⟨some 5, .call I.tree_Word [.tmp 4], none, []⟩,
  ⟨some 6, .len (.tmp 5), none, []⟩,
  ⟨some 7, .load 1 false (.tmp 1), none, []⟩,
  ⟨some 8, .bin .add (.tmp 6) (.tmp 7), none, []⟩,
  ⟨some 9, .bin .rem (.tmp 8) (.const (.int .i64 2)), none, []⟩,
  ⟨some 10, .bin .eql (.tmp 9) (.const (.int .i64 0)), none, []⟩,
  ⟨some 11, .mv (.tmp 10), none, []⟩,
  ⟨some 12, .load 3 true (.tmp 2), (some (11, false)), []⟩,
  ⟨some 13, .call I.tree_Size [.tmp 12], (some (11, false)), []⟩,
  ⟨some 14, .bin .gtr (.tmp 13) (.const (.int .i64 9)), (some (11, false)), []⟩,
  ⟨some 15, .pick (.tmp 11) (.const (.bool true)) (.tmp 14), none, []⟩,
  ⟨some 3, .mv (.tmp 15), none, []⟩]
def F.parlkeep5_ShrinkTree_1.c : ACode := .seq (.region F.parlkeep5_ShrinkTree_1.r0) (.seq (.draw F.parlkeep5_ShrinkTree_1.r1 [(3, 1)]) (.ret))
def F.parlkeep5_ShrinkTree_1 : AFunc := ⟨F.parlkeep5_ShrinkTree_1.c, [.tmp 3]⟩
/-! parlance/parlkeep5.distinct -/
def F.parlkeep5_distinct.r0 : List DOp := [
  ⟨some 2, .mv (.const (.slice none 0 0)), none, []⟩]
def F.parlkeep5_distinct.r1 : List DOp := [
  ⟨some 3, .mv (.const (.slice none 0 0)), none, []⟩]
def F.parlkeep5_distinct.r2 : List DOp := [
  ⟨some 6, .mv (.tmp 0), none, []⟩,
  ⟨some 7, .len (.tmp 6), none, []⟩,
  ⟨some 8, .mv (.const (.int .i64 0)), none, []⟩]
def F.parlkeep5_distinct.r3 : List DOp := [
  ⟨some 9, .bin .lss (.tmp 8) (.tmp 7), none, []⟩]
def F.parlkeep5_distinct.r4 : List DOp := [
  ⟨some 10, .idxs 2 (.tmp 6) (.tmp 8), none, []⟩,
  ⟨some 11, .load 2 true (.tmp 10), none, []⟩,
  ⟨some 5, .alloc [.int .i64 0, .slice none 0 0], none, []⟩,
  ⟨none, .store 2 (.tmp 5) (.tmp 11), none, []⟩]
def F.parlkeep5_distinct.r5 : List DOp := [
  ⟨some 12, .mv (.tmp 3), none, []⟩,
  ⟨some 13, .mkfn (.func I.parlkeep5_distinct_1) [.tmp 5], none, []⟩,
  ⟨some 14, .call I.slices_ContainsFunc_api_Rule_api_Rule [.tmp 12, .tmp 13], none, []⟩,
  ⟨some 15, .un .not (.tmp 14), none, []⟩]
def F.parlkeep5_distinct.r6 : List DOp := [
  ⟨some 16, .mv (.tmp 3), none, []⟩,
  ⟨some 17, .load 2 true (.tmp 5), none, []⟩,
  ⟨some 18, .bslice 2 1 [.int .i64 0, .slice none 0 0] [(0, 2, .tmp 17)], none, []⟩,
  ⟨some 19, .append 2 32 (.tmp 16) (.tmp 18), none, []⟩,
  ⟨some 3, .mv (.tmp 19), none, []⟩]
def F.parlkeep5_distinct.r7 : List DOp := [
  ⟨some 20, .bin .add (.tmp 8) (.const (.int .i64 1)), none, []⟩,
  ⟨some 8, .mv (.tmp 20), none, []⟩]
def F.parlkeep5_distinct.L0 : ACode := .seq (.region F.parlkeep5_distinct.r3) (.seq (.cond (.tmp 9) (.skip) (.exit 0)) (.seq (.block 1 (.seq (.region F.parlkeep5_distinct.r4) (.seq (.region F.parlkeep5_distinct.r5) (.cond (.tmp 15) (.region F.parlkeep5_distinct.r6) (.skip))))) (.region F.parlkeep5_distinct.r7)))
def F.parlkeep5_distinct.r8 : List DOp := [
  ⟨some 21, .mv (.tmp 3), none, []⟩,
  ⟨some 2, .mv (.tmp 21), none, []⟩]
def F.parlkeep5_distinct.c : ACode := .seq (.region F.parlkeep5_distinct.r0) (.seq (.region F.parlkeep5_distinct.r1) (.seq (.seq (.region F.parlkeep5_distinct.r2) (.block 0 (.loop F.parlkeep5_distinct.L0))) (.seq (.region F.parlkeep5_distinct.r8) (.ret))))
def F.parlkeep5_distinct : AFunc := ⟨F.parlkeep5_distinct.c, [.tmp 2]⟩
/-! parlance/parlkeep5.fewer -/
def F.parlkeep5_fewer.r0 : List DOp := [
  ⟨some 3, .box (.tmp 0), none, []⟩,
  ⟨some 4, .box (.tmp 1), none, []⟩,
  ⟨some 6, .mv (.const (.slice none 0 0)), none, []⟩,
  ⟨some 7, .mv (.const (.slice none 0 0)), none, []⟩]
def F.parlkeep5_fewer.r1 : List DOp := [
  ⟨some 12, .load 3 true (.tmp 3), none, []⟩,
  ⟨some 13, .mv (.tmp 2), none, []⟩,
  ⟨some 14, .call I.parlkeep5_examples [.tmp 12, .tmp 13], none, []⟩,
  ⟨some 11, .mv (.tmp 14), none, []⟩,
  ⟨some 15, .extract (.tmp 11) 0, none, []⟩,
  ⟨some 16, .extract (.tmp 11) 1, none, []⟩,
  ⟨some 8, .mv (.tmp 15), none, []⟩,
  ⟨some 9, .mv (.tmp 16), none, []⟩]
def F.parlkeep5_fewer.r2 : List DOp := [
  ⟨some 17, .mkfn (.func I.parlkeep5_fewer_1) [.tmp 4], none, []⟩,
  ⟨some 10, .mv (.tmp 17), none, []⟩]
def F.parlkeep5_fewer.r3 : List DOp := [
  ⟨some 18, .mv (.tmp 8), none, []⟩,
  ⟨some 19, .mv (.tmp 10), none, []⟩,
  ⟨some 20, .call I.slices_DeleteFunc_int_int [.tmp 18, .tmp 19], none, []⟩,
  ⟨some 21, .mv (.tmp 9), none, []⟩,
  ⟨some 22, .mv (.tmp 10), none, []⟩,
  ⟨some 23, .call I.slices_DeleteFunc_int_int [.tmp 21, .tmp 22], none, []⟩,
  ⟨some 8, .mv (.tmp 20), none, []⟩,
  ⟨some 9, .mv (.tmp 23), none, []⟩]
def F.parlkeep5_fewer.r4 : List DOp := [
  ⟨some 24, .mv (.tmp 8), none, []⟩,
  ⟨some 25, .mv (.tmp 8), none, []⟩,
  ⟨some 26, .len (.tmp 25), none, []⟩,
  ⟨some 27, .mm false [.const (.int .i64 3), .tmp 26], none, []⟩,
  ⟨some 28, .slice 1 (.tmp 24) none (some (.tmp 27)), none, []⟩,
  ⟨some 29, .mv (.tmp 9), none, []⟩,
  ⟨some 30, .mv (.tmp 9), none, []⟩,
  ⟨some 31, .len (.tmp 30), none, []⟩,
  ⟨some 32, .mm false [.const (.int .i64 3), .tmp 31], none, []⟩,
  ⟨some 33, .slice 1 (.tmp 29) none (some (.tmp 32)), none, []⟩,
  ⟨some 6, .mv (.tmp 28), none, []⟩,
  ⟨some 7, .mv (.tmp 33), none, []⟩]
def F.parlkeep5_fewer.c : ACode := .seq (.region F.parlkeep5_fewer.r0) (.seq (.region F.parlkeep5_fewer.r1) (.seq (.region F.parlkeep5_fewer.r2) (.seq (.region F.parlkeep5_fewer.r3) (.seq (.draw F.parlkeep5_fewer.r4 []) (.ret)))))
def F.parlkeep5_fewer : AFunc := ⟨F.parlkeep5_fewer.c, [.tmp 6, .tmp 7]⟩
/-! parlance/parlkeep5.counts -/
def F.parlkeep5_counts.r0 : List DOp := [
  ⟨some 0, .mv (.const (.bool false)), none, []⟩]
def F.parlkeep5_counts.r1 : List DOp := [
  ⟨some 4, .call I.parlkeep5_plain [], none, []⟩,
  ⟨some 5, .call I.census_Total [.tmp 4, .const (.int .i64 2)], none, []⟩,
  ⟨some 3, .mv (.tmp 5), none, []⟩,
  ⟨some 6, .extract (.tmp 3) 0, none, []⟩,
  ⟨some 7, .extract (.tmp 3) 1, none, []⟩,
  ⟨some 1, .mv (.tmp 6), none, []⟩,
  ⟨some 2, .mv (.tmp 7), none, []⟩]
def F.parlkeep5_counts.r2 : List DOp := [
  ⟨some 8, .mv (.tmp 1), none, []⟩,
  ⟨some 9, .bin .eql (.tmp 8) (.const (.int .i64 2)), none, []⟩,
  ⟨some 10, .mv (.tmp 9), none, []⟩,
  ⟨some 11, .mv (.tmp 2), (some (10, true)), []⟩,
  ⟨some 12, .bin .eql (.tmp 11) (.const (.int .i64 0)), (some (10, true)), []⟩,
  ⟨some 13, .pick (.tmp 10) (.tmp 12) (.const (.bool false)), none, []⟩,
  ⟨some 0, .mv (.tmp 13), none, []⟩]
def F.parlkeep5_counts.c : ACode := .seq (.region F.parlkeep5_counts.r0) (.seq (.region F.parlkeep5_counts.r1) (.seq (.region F.parlkeep5_counts.r2) (.ret)))
def F.parlkeep5_counts : AFunc := ⟨F.parlkeep5_counts.c, [.tmp 0]⟩
/-! parlance/parlkeep5.CensusLeast$1 -/
def F.parlkeep5_CensusLeast_1.r0 : List DOp := [
  ⟨some 2, .mv (.const (.bool false)), none, []⟩]
def F.parlkeep5_CensusLeast_1.r1 : List DOp := [
  ⟨some 3, .mv (.tmp 0), none, []⟩,
  ⟨some 4, .bin .neq (.tmp 3) (.const (.int .i64 0)), none, []⟩,
  ⟨some 2, .mv (.tmp 4), none, []⟩]
def F.parlkeep5_CensusLeast_1.c : ACode := .seq (.region F.parlkeep5_CensusLeast_1.r0) (.seq (.region F.parlkeep5_CensusLeast_1.r1) (.ret))
def F.parlkeep5_CensusLeast_1 : AFunc := ⟨F.parlkeep5_CensusLeast_1.c, [.tmp 2]⟩
/-! parlance/parlkeep5.distinct$1 -/
def F.parlkeep5_distinct_1.r0 : List DOp := [
  ⟨some 2, .box (.tmp 0), none, []⟩,
  ⟨some 3, .mv (.const (.bool false)), none, []⟩]
def F.parlkeep5_distinct_1.r1 : List DOp := [
  ⟨some 4, .faddr 0 (.tmp 2), none, []⟩,
  ⟨some 5, .load 1 false (.tmp 4), none, []⟩,
  ⟨some 6, .faddr 0 (.tmp 1), none, []⟩,
  ⟨some 7, .load 1 false (.tmp 6), none, []⟩,
  ⟨some 8, .bin .eql (.tmp 5) (.tmp 7), none, []⟩,
  ⟨some 9, .mv (.tmp 8), none, []⟩,
  ⟨some 10, .faddr 1 (.tmp 2), (some (9, true)), []⟩,
  ⟨some 11, .load 1 false (.tmp 10), (some (9, true)), []⟩,
  ⟨some 12, .faddr 1 (.tmp 1), (some (9, true)), []⟩,
  ⟨some 13, .load 1 false (.tmp 12), (some (9, true)), []⟩,
  ⟨some 14, .call I.slices_Equal_api_Sym_api_Sym [.tmp 11, .tmp 13], (some (9, true)), []⟩,
  ⟨some 15, .pick (.tmp 9) (.tmp 14) (.const (.bool false)), none, []⟩,
  ⟨some 3, .mv (.tmp 15), none, []⟩]
def F.parlkeep5_distinct_1.c : ACode := .seq (.region F.parlkeep5_distinct_1.r0) (.seq (.region F.parlkeep5_distinct_1.r1) (.ret))
def F.parlkeep5_distinct_1 : AFunc := ⟨F.parlkeep5_distinct_1.c, [.tmp 3]⟩
/-! parlance/parlkeep5.examples -/
def F.parlkeep5_examples.r0 : List DOp := [
  ⟨some 2, .box (.tmp 0), none, []⟩,
  ⟨some 4, .mv (.const (.slice none 0 0)), none, []⟩,
  ⟨some 5, .mv (.const (.slice none 0 0)), none, []⟩]
def F.parlkeep5_examples.r1 : List DOp := [
  ⟨some 6, .mv (.const (.slice none 0 0)), none, []⟩,
  ⟨some 7, .mv (.const (.slice none 0 0)), none, []⟩]
def F.parlkeep5_examples.r2 : List DOp := [
  ⟨some 10, .mv (.tmp 1), none, []⟩,
  ⟨some 11, .len (.tmp 10), none, []⟩,
  ⟨some 12, .bin .gtr (.tmp 11) (.const (.int .i64 0)), none, []⟩,
  ⟨some 13, .mv (.tmp 12), none, []⟩,
  ⟨some 14, .mv (.tmp 6), (some (13, true)), []⟩,
  ⟨some 15, .len (.tmp 14), (some (13, true)), []⟩,
  ⟨some 16, .mv (.tmp 7), (some (13, true)), []⟩,
  ⟨some 17, .len (.tmp 16), (some (13, true)), []⟩,
  ⟨some 18, .bin .add (.tmp 15) (.tmp 17), (some (13, true)), []⟩,
  ⟨some 19, .bin .lss (.tmp 18) (.const (.int .i64 12)), (some (13, true)), []⟩,
  ⟨some 20, .pick (.tmp 13) (.tmp 19) (.const (.bool false)), none, []⟩]
def F.parlkeep5_examples.r3 : List DOp := [
  ⟨some 21, .mv (.tmp 1), none, []⟩,
  ⟨some 22, .idxs 1 (.tmp 21) (.const (.int .i64 0)), none, []⟩,
  ⟨some 23, .load 1 false (.tmp 22), none, []⟩,
  ⟨some 24, .call I.parlkeep5_below [.tmp 23, .const (.int .i64 5)], none, []⟩,
  ⟨some 8, .mv (.tmp 24), none, []⟩]
def F.parlkeep5_examples.r4 : List DOp := [
  ⟨some 25, .mv (.tmp 1), none, []⟩,
  ⟨some 26, .slice 1 (.tmp 25) (some (.const (.int .i64 1))) none, none, []⟩,
  ⟨some 1, .mv (.tmp 26), none, []⟩]
def F.parlkeep5_examples.r5 : List DOp := [
  ⟨some 27, .faddr 2 (.tmp 2), none, []⟩,
  ⟨some 28, .load 1 false (.tmp 27), none, []⟩,
  ⟨some 29, .idxs 1 (.tmp 28) (.const (.int .i64 0)), none, []⟩,
  ⟨some 30, .load 1 false (.tmp 29), none, []⟩,
  ⟨some 31, .len (.tmp 30), none, []⟩,
  ⟨some 32, .mv (.tmp 8), none, []⟩,
  ⟨some 33, .mv (.tmp 1), none, []⟩,
  ⟨some 34, .call I.parlmake_Word [.tmp 31, .tmp 32, .tmp 33], none, []⟩,
  ⟨some 9, .mv (.tmp 34), none, []⟩]
def F.parlkeep5_examples.r6 : List DOp := [
  ⟨some 35, .mv (.tmp 1), none, []⟩,
  ⟨some 36, .mv (.tmp 1), none, []⟩,
  ⟨some 37, .len (.tmp 36), none, []⟩,
  ⟨some 38, .mv (.tmp 8), none, []⟩,
  ⟨some 39, .mm false [.tmp 37, .tmp 38], none, []⟩,
  ⟨some 40, .slice 1 (.tmp 35) (some (.tmp 39)) none, none, []⟩,
  ⟨some 1, .mv (.tmp 40), none, []⟩]
def F.parlkeep5_examples.r7 : List DOp := [
  ⟨some 41, .load 3 true (.tmp 2), none, []⟩,
  ⟨some 42, .mv (.tmp 9), none, []⟩,
  ⟨some 43, .call I.parlkeep5_accepts [.tmp 41, .tmp 42], none, []⟩]
def F.parlkeep5_examples.r8 : List DOp := [
  ⟨some 44, .mv (.tmp 6), none, []⟩,
  ⟨some 45, .mv (.tmp 9), none, []⟩,
  ⟨some 46, .bslice 1 1 [.slice none 0 0] [(0, 1, .tmp 45)], none, []⟩,
  ⟨some 47, .append 1 24 (.tmp 44) (.tmp 46), none, []⟩,
  ⟨some 6, .mv (.tmp 47), none, []⟩]
def F.parlkeep5_examples.r9 : List DOp := [
  ⟨some 48, .mv (.tmp 7), none, []⟩,
  ⟨some 49, .mv (.tmp 9), none, []⟩,
  ⟨some 50, .bslice 1 1 [.slice none 0 0] [(0, 1, .tmp 49)], none, []⟩,
  ⟨some 51, .append 1 24 (.tmp 48) (.tmp 50), none, []⟩,
  ⟨some 7, .mv (.tmp 51), none, []⟩]
def F.parlkeep5_examples.L0 : ACode := .seq (.seq (.region F.parlkeep5_examples.r2) (.cond (.tmp 20) (.skip) (.exit 0))) (.block 1 (.seq (.region F.parlkeep5_examples.r3) (.seq (.region F.parlkeep5_examples.r4) (.seq (.region F.parlkeep5_examples.r5) (.seq (.region F.parlkeep5_examples.r6) (.seq (.region F.parlkeep5_examples.r7) (.cond (.tmp 43) (.region F.parlkeep5_examples.r8) (.region F.parlkeep5_examples.r9))))))))
def F.parlkeep5_examples.r10 : List DOp := [
  ⟨some 52, .mv (.tmp 6), none, []⟩,
  ⟨some 53, .mv (.tmp 7), none, []⟩,
  ⟨some 4, .mv (.tmp 52), none, []⟩,
  ⟨some 5, .mv (.tmp 53), none, []⟩]
def F.parlkeep5_examples.c : ACode := .seq (.region F.parlkeep5_examples.r0) (.seq (.region F.parlkeep5_examples.r1) (.seq (.block 0 (.loop F.parlkeep5_examples.L0)) (.seq (.region F.parlkeep5_examples.r10) (.ret))))
def F.parlkeep5_examples : AFunc := ⟨F.parlkeep5_examples.c, [.tmp 4, .tmp 5]⟩
/-! parlance/parlkeep5.fewer$1 -/
def F.parlkeep5_fewer_1.r0 : List DOp := [
  ⟨some 3, .mv (.const (.bool false)), none, []⟩]
def F.parlkeep5_fewer_1.r1 : List DOp := [
  ⟨some 4, .mv (.tmp 0), none, []⟩,
  ⟨some 5, .mkfn (.func I.parlkeep5_fewer_1_1) [.tmp 1], none, []⟩,
  ⟨some 6, .call I.slices_ContainsFunc_int_int [.tmp 4, .tmp 5], none, []⟩,
  ⟨some 3, .mv (.tmp 6), none, []⟩]
def F.parlkeep5_fewer_1.c : ACode := .seq (.region F.parlkeep5_fewer_1.r0) (.seq (.region F.parlkeep5_fewer_1.r1) (.ret))
def F.parlkeep5_fewer_1 : AFunc := ⟨F.parlkeep5_fewer_1.c, [.tmp 3]⟩
/-! parlance/parlkeep5.fewer$1$1 -/
def F.parlkeep5_fewer_1_1.r0 : List DOp := [
  ⟨some 3, .mv (.const (.bool false)), none, []⟩]
def F.parlkeep5_fewer_1_1.r1 : List DOp := [
  ⟨some 4, .mv (.tmp 0), none, []⟩,
  ⟨some 5, .load 1 false (.tmp 1), none, []⟩,
  ⟨some 6, .bin .geq (.tmp 4) (.tmp 5), none, []⟩,
  ⟨some 3, .mv (.tmp 6), none, []⟩]
def F.parlkeep5_fewer_1_1.c : ACode := .seq (.region F.parlkeep5_fewer_1_1.r0) (.seq (.region F.parlkeep5_fewer_1_1.r1) (.ret))
def F.parlkeep5_fewer_1_1 : AFunc := ⟨F.parlkeep5_fewer_1_1.c, [.tmp 3]⟩
/-! parlance/parlkeep5.accepts -/
def F.parlkeep5_accepts.r0 : List DOp := [
  ⟨some 2, .box (.tmp 0), none, []⟩,
  ⟨some 4, .mv (.const (.bool false)), none, []⟩]
def F.parlkeep5_accepts.r1 : List DOp := [
  ⟨some 8, .load 3 true (.tmp 2), none, []⟩,
  ⟨some 9, .mv (.tmp 1), none, []⟩,
  ⟨some 10, .call I.dfa_Run [.tmp 8, .tmp 9], none, []⟩,
  ⟨some 7, .mv (.tmp 10), none, []⟩,
  ⟨some 11, .extract (.tmp 7) 0, none, []⟩,
  ⟨some 12, .extract (.tmp 7) 1, none, []⟩,
  ⟨some 5, .mv (.tmp 11), none, []⟩,
  ⟨some 6, .mv (.tmp 12), none, []⟩]
def F.parlkeep5_accepts.r2 : List DOp := [
  ⟨some 13, .mv (.tmp 6), none, []⟩,
  ⟨some 14, .bin .eql (.tmp 13) (.const (.int .i64 0)), none, []⟩,
  ⟨some 15, .mv (.tmp 14), none, []⟩,
  ⟨some 16, .mv (.tmp 5), (some (15, true)), []⟩,
  ⟨some 17, .bin .geq (.tmp 16) (.const (.int .i64 0)), (some (15, true)), []⟩,
  ⟨some 18, .pick (.tmp 15) (.tmp 17) (.const (.bool false)), none, []⟩,
  ⟨some 4, .mv (.tmp 18), none, []⟩]
def F.parlkeep5_accepts.c : ACode := .seq (.region F.parlkeep5_accepts.r0) (.seq (.region F.parlkeep5_accepts.r1) (.seq (.region F.parlkeep5_accepts.r2) (.ret)))
def F.parlkeep5_accepts : AFunc := ⟨F.parlkeep5_accepts.c, [.tmp 4]⟩
end Go.Proofs.Ythgdobdhdfjhfaa
