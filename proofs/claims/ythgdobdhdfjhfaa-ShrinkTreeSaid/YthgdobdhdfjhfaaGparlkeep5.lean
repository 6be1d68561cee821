/- The abstract code of package parlkeep5, written by wip/tools/gen.py from the translation. -/
import Derived.Test.YthgdobdhdfjhfaaI
namespace Go.Proofs.Ythgdobdhdfjhfaa
open Go Go.Ab
/-! parlance/parlkeep5.ShrinkTree -/
def F.parlkeep5_ShrinkTree.r0 : List DOp := [
  ⟨some 5, .box (.tmp 2), none, []⟩,
  ⟨some 6, .mv (.const (.bool false)), none, []⟩]
def F.parlkeep5_ShrinkTree.r1 : List DOp := [
  ⟨some 16, .mv (.tmp 0), none, []⟩,
  ⟨some 17, .call I.parlmake_Grammar [.tmp 16], none, []⟩,
  ⟨some 7, .alloc [.int .i64 0, .int .i64 0, .int .i64 0, .slice none 0 0], none, []⟩,
  ⟨none, .store 4 (.tmp 7) (.tmp 17), none, []⟩]
def F.parlkeep5_ShrinkTree.r2 : List DOp := [
  ⟨some 18, .call I.parlkeep5_plain [], none, []⟩,
  ⟨some 19, .build [.int .i64 0, .int .i64 0, .slice none 0 0] [(0, 1, .const (.int .i64 (-1))), (1, 1, .const (.int .i64 1))], none, []⟩,
  ⟨some 20, .build [.int .i64 0, .int .i64 0, .slice none 0 0] [(0, 1, .const (.int .i64 (-1)))], none, []⟩,
  ⟨some 21, .bslice 3 1 [.int .i64 0, .int .i64 0, .slice none 0 0] [(0, 3, .tmp 20)], none, []⟩,
  ⟨some 22, .build [.int .i64 0, .int .i64 0, .slice none 0 0] [(2, 1, .tmp 21)], none, []⟩,
  ⟨some 23, .bslice 3 2 [.int .i64 0, .int .i64 0, .slice none 0 0, .int .i64 0, .int .i64 0, .slice none 0 0] [(0, 3, .tmp 19), (3, 3, .tmp 22)], none, []⟩,
  ⟨some 24, .build [.int .i64 0, .int .i64 0, .slice none 0 0] [(0, 1, .const (.int .i64 1)), (2, 1, .tmp 23)], none, []⟩,
  ⟨some 25, .call I.shrink_Smaller [.tmp 18, .tmp 24], none, []⟩,
  ⟨some 8, .mv (.tmp 25), none, []⟩]
def F.parlkeep5_ShrinkTree.r3 : List DOp := [
  ⟨some 26, .mv (.tmp 8), none, []⟩,
  ⟨some 27, .len (.tmp 26), none, []⟩,
  ⟨some 28, .bin .neq (.tmp 27) (.const (.int .i64 1)), none, []⟩]
def F.parlkeep5_ShrinkTree.r4 : List DOp := [
  ⟨some 6, .mv (.const (.bool false)), none, []⟩]
def F.parlkeep5_ShrinkTree.r5 : List DOp := [
  ⟨some 30, .load 4 true (.tmp 7), none, []⟩,
  ⟨some 31, .mv (.tmp 1), none, []⟩,
  ⟨some 32, .call I.parlmake_Tree [.tmp 30, .tmp 31], none, []⟩,
  ⟨some 29, .mv (.tmp 32), none, []⟩,
  ⟨some 33, .extract (.tmp 29) 0, none, []⟩,
  ⟨some 34, .extract (.tmp 29) 1, none, []⟩,
  ⟨some 9, .alloc [.int .i64 0, .int .i64 0, .slice none 0 0], none, []⟩,
  ⟨none, .store 3 (.tmp 9) (.tmp 33), none, []⟩,
  ⟨some 10, .mv (.tmp 34), none, []⟩]
def F.parlkeep5_ShrinkTree.r6 : List DOp := [
  ⟨some 35, .mv (.tmp 10), none, []⟩,
  ⟨some 36, .un .not (.tmp 35), none, []⟩,
  ⟨some 37, .mv (.tmp 36), none, []⟩,
  ⟨some 38, .load 3 true (.tmp 9), (some (37, false)), []⟩,
  ⟨some 39, .call I.tree_Size [.tmp 38], (some (37, false)), []⟩,
  ⟨some 40, .bin .gtr (.tmp 39) (.const (.int .i64 60)), (some (37, false)), []⟩,
  ⟨some 41, .pick (.tmp 37) (.const (.bool true)) (.tmp 40), none, []⟩]
def F.parlkeep5_ShrinkTree.r7 : List DOp := [
  ⟨some 6, .mv (.const (.bool true)), none, []⟩]
def F.parlkeep5_ShrinkTree.r8 : List DOp := [
  ⟨some 42, .load 1 false (.tmp 5), none, []⟩,
  ⟨some 43, .call I.parlkeep5_below [.tmp 42, .const (.int .i64 4)], none, []⟩,
  ⟨none, .store 1 (.tmp 5) (.tmp 43), none, []⟩]
def F.parlkeep5_ShrinkTree.r9 : List DOp := [
  ⟨some 44, .mkfn (.func I.parlkeep5_ShrinkTree_1) [.tmp 5], none, []⟩,
  ⟨some 11, .mv (.tmp 44), none, []⟩]
def F.parlkeep5_ShrinkTree.r10 : List DOp := [
  ⟨some 46, .load 4 true (.tmp 7), none, []⟩,
  ⟨some 47, .load 3 true (.tmp 9), none, []⟩,
  ⟨some 48, .mv (.tmp 11), none, []⟩,
  ⟨some 49, .call I.shrink_Tree [.tmp 46, .tmp 47, .tmp 48], none, []⟩,
  ⟨some 45, .mv (.tmp 49), none, []⟩,
  ⟨some 50, .extract (.tmp 45) 0, none, []⟩,
  ⟨some 51, .extract (.tmp 45) 1, none, []⟩,
  ⟨some 12, .alloc [.int .i64 0, .int .i64 0, .slice none 0 0], none, []⟩,
  ⟨none, .store 3 (.tmp 12) (.tmp 50), none, []⟩,
  ⟨some 13, .mv (.tmp 51), none, []⟩]
def F.parlkeep5_ShrinkTree.r11 : List DOp := [
  ⟨some 52, .mv (.tmp 11), none, []⟩,
  ⟨some 53, .load 3 true (.tmp 9), none, []⟩,
  ⟨some 54, .callv (.tmp 52) [.tmp 53], none, []⟩,
  ⟨some 55, .un .not (.tmp 54), none, []⟩]
def F.parlkeep5_ShrinkTree.r12 : List DOp := [
  ⟨some 56, .mv (.tmp 13), none, []⟩,
  ⟨some 57, .bin .eql (.tmp 56) (.const (.int .i64 7)), none, []⟩,
  ⟨some 6, .mv (.tmp 57), none, []⟩]
def F.parlkeep5_ShrinkTree.r13 : List DOp := [
  ⟨some 58, .mv (.tmp 13), none, []⟩,
  ⟨some 59, .bin .neq (.tmp 58) (.const (.int .i64 0)), none, []⟩,
  ⟨some 60, .mv (.tmp 59), none, []⟩,
  ⟨some 61, .mv (.tmp 11), (some (60, false)), []⟩,
  ⟨some 62, .load 3 true (.tmp 12), (some (60, false)), []⟩,
  ⟨some 63, .callv (.tmp 61) [.tmp 62], (some (60, false)), []⟩,
  ⟨some 64, .un .not (.tmp 63), (some (60, false)), []⟩,
  ⟨some 65, .pick (.tmp 60) (.const (.bool true)) (.tmp 64), none, []⟩,
  ⟨some 66, .mv (.tmp 65), none, []⟩,
  ⟨some 67, .load 4 true (.tmp 7), (some (66, false)), []⟩,
  ⟨some 68, .load 3 true (.tmp 12), (some (66, false)), []⟩,
  ⟨some 69, .call I.tree_Check [.tmp 67, .tmp 68], (some (66, false)), []⟩,
  ⟨some 70, .bin .neq (.tmp 69) (.const (.int .i64 0)), (some (66, false)), []⟩,
  ⟨some 71, .pick (.tmp 66) (.const (.bool true)) (.tmp 70), none, []⟩,
  ⟨some 72, .mv (.tmp 71), none, []⟩,
  ⟨some 73, .faddr 3 (.tmp 7), (some (72, false)), []⟩,
  ⟨some 74, .load 1 false (.tmp 73), (some (72, false)), []⟩,
  ⟨some 75, .faddr 0 (.tmp 12), (some (72, false)), []⟩,
  ⟨some 76, .load 1 false (.tmp 75), (some (72, false)), []⟩,
  ⟨some 77, .idxs 2 (.tmp 74) (.tmp 76), (some (72, false)), []⟩,
  ⟨some 78, .faddr 0 (.tmp 77), (some (72, false)), []⟩,
  ⟨some 79, .load 1 false (.tmp 78), (some (72, false)), []⟩,
  ⟨some 80, .faddr 2 (.tmp 7), (some (72, false)), []⟩,
  ⟨some 81, .load 1 false (.tmp 80), (some (72, false)), []⟩,
  ⟨some 82, .bin .neq (.tmp 79) (.tmp 81), (some (72, false)), []⟩,
  ⟨some 83, .pick (.tmp 72) (.const (.bool true)) (.tmp 82), none, []⟩,
  ⟨some 84, .mv (.tmp 83), none, []⟩,
  ⟨some 85, .load 3 true (.tmp 12), (some (84, false)), []⟩,
  ⟨some 86, .call I.tree_Size [.tmp 85], (some (84, false)), []⟩,
  ⟨some 87, .load 3 true (.tmp 9), (some (84, false)), []⟩,
  ⟨some 88, .call I.tree_Size [.tmp 87], (some (84, false)), []⟩,
  ⟨some 89, .bin .gtr (.tmp 86) (.tmp 88), (some (84, false)), []⟩,
  ⟨some 90, .pick (.tmp 84) (.const (.bool true)) (.tmp 89), none, []⟩]
def F.parlkeep5_ShrinkTree.r14 : List DOp := [
  ⟨some 6, .mv (.const (.bool false)), none, []⟩]
def F.parlkeep5_ShrinkTree.r15 : List DOp := [
  ⟨some 91, .load 4 true (.tmp 7), none, []⟩,
  ⟨some 92, .load 3 true (.tmp 12), none, []⟩,
  ⟨some 93, .call I.shrink_Smaller [.tmp 91, .tmp 92], none, []⟩,
  ⟨some 94, .len (.tmp 93), none, []⟩,
  ⟨some 95, .mv (.const (.int .i64 0)), none, []⟩]
def F.parlkeep5_ShrinkTree.r16 : List DOp := [
  ⟨some 96, .bin .lss (.tmp 95) (.tmp 94), none, []⟩]
def F.parlkeep5_ShrinkTree.r17 : List DOp := [
  ⟨some 97, .idxs 3 (.tmp 93) (.tmp 95), none, []⟩,
  ⟨some 98, .load 3 true (.tmp 97), none, []⟩,
  ⟨some 15, .alloc [.int .i64 0, .int .i64 0, .slice none 0 0], none, []⟩,
  ⟨none, .store 3 (.tmp 15) (.tmp 98), none, []⟩]
def F.parlkeep5_ShrinkTree.r18 : List DOp := [
  ⟨some 99, .mv (.tmp 11), none, []⟩,
  ⟨some 100, .load 3 true (.tmp 15), none, []⟩,
  ⟨some 101, .callv (.tmp 99) [.tmp 100], none, []⟩,
  ⟨some 102, .mv (.tmp 101), none, []⟩,
  ⟨some 103, .load 3 true (.tmp 15), (some (102, false)), []⟩,
  ⟨some 104, .call I.tree_Size [.tmp 103], (some (102, false)), []⟩,
  ⟨some 105, .load 3 true (.tmp 12), (some (102, false)), []⟩,
  ⟨some 106, .call I.tree_Size [.tmp 105], (some (102, false)), []⟩,
  ⟨some 107, .bin .geq (.tmp 104) (.tmp 106), (some (102, false)), []⟩,
  ⟨some 108, .pick (.tmp 102) (.const (.bool true)) (.tmp 107), none, []⟩,
  ⟨some 109, .mv (.tmp 108), none, []⟩,
  ⟨some 110, .load 4 true (.tmp 7), (some (109, false)), []⟩,
  ⟨some 111, .load 3 true (.tmp 15), (some (109, false)), []⟩,
  ⟨some 112, .call I.tree_Check [.tmp 110, .tmp 111], (some (109, false)), []⟩,
  ⟨some 113, .bin .neq (.tmp 112) (.const (.int .i64 0)), (some (109, false)), []⟩,
  ⟨some 114, .pick (.tmp 109) (.const (.bool true)) (.tmp 113), none, []⟩]
def F.parlkeep5_ShrinkTree.r19 : List DOp := [
  ⟨some 6, .mv (.const (.bool false)), none, []⟩]
def F.parlkeep5_ShrinkTree.r20 : List DOp := [
  ⟨some 115, .bin .add (.tmp 95) (.const (.int .i64 1)), none, []⟩,
  ⟨some 95, .mv (.tmp 115), none, []⟩]
def F.parlkeep5_ShrinkTree.L0 : ACode := .seq (.region F.parlkeep5_ShrinkTree.r16) (.seq (.cond (.tmp 96) (.skip) (.exit 0)) (.seq (.block 1 (.seq (.region F.parlkeep5_ShrinkTree.r17) (.seq (.draw F.parlkeep5_ShrinkTree.r18 [(6, 5)]) (.cond (.tmp 114) (.seq (.region F.parlkeep5_ShrinkTree.r19) (.ret)) (.skip))))) (.region F.parlkeep5_ShrinkTree.r20)))
def F.parlkeep5_ShrinkTree.r21 : List DOp := [
  ⟨some 6, .mv (.const (.bool true)), none, []⟩]
def F.parlkeep5_ShrinkTree.c : ACode := .seq (.region F.parlkeep5_ShrinkTree.r0) (.seq (.region F.parlkeep5_ShrinkTree.r1) (.seq (.seq (.region F.parlkeep5_ShrinkTree.r2) (.seq (.region F.parlkeep5_ShrinkTree.r3) (.cond (.tmp 28) (.seq (.region F.parlkeep5_ShrinkTree.r4) (.ret)) (.skip)))) (.seq (.region F.parlkeep5_ShrinkTree.r5) (.seq (.seq (.region F.parlkeep5_ShrinkTree.r6) (.cond (.tmp 41) (.seq (.region F.parlkeep5_ShrinkTree.r7) (.ret)) (.skip))) (.seq (.region F.parlkeep5_ShrinkTree.r8) (.seq (.region F.parlkeep5_ShrinkTree.r9) (.seq (.region F.parlkeep5_ShrinkTree.r10) (.seq (.seq (.region F.parlkeep5_ShrinkTree.r11) (.cond (.tmp 55) (.seq (.region F.parlkeep5_ShrinkTree.r12) (.ret)) (.skip))) (.seq (.seq (.draw F.parlkeep5_ShrinkTree.r13 [(29, 28)]) (.cond (.tmp 90) (.seq (.region F.parlkeep5_ShrinkTree.r14) (.ret)) (.skip))) (.seq (.seq (.region F.parlkeep5_ShrinkTree.r15) (.block 0 (.loop F.parlkeep5_ShrinkTree.L0))) (.seq (.region F.parlkeep5_ShrinkTree.r21) (.ret))))))))))))
def F.parlkeep5_ShrinkTree : AFunc := ⟨F.parlkeep5_ShrinkTree.c, [.tmp 6]⟩
/-! parlance/parlkeep5.plain -/
def F.parlkeep5_plain.r0 : List DOp := [
  ⟨some 0, .alloc [.int .i64 0, .int .i64 0, .int .i64 0, .slice none 0 0], none, []⟩]
def F.parlkeep5_plain.r1 : List DOp := [
  ⟨some 1, .build [.bool false, .int .i64 0] [(0, 1, .const (.bool true))], none, []⟩,
  ⟨some 2, .bslice 2 1 [.bool false, .int .i64 0] [(0, 2, .tmp 1)], none, []⟩,
  ⟨some 3, .build [.int .i64 0, .slice none 0 0] [(1, 1, .tmp 2)], none, []⟩,
  ⟨some 4, .build [.bool false, .int .i64 0] [(0, 1, .const (.bool true)), (1, 1, .const (.int .i64 1))], none, []⟩,
  ⟨some 5, .build [.bool false, .int .i64 0] [], none, []⟩,
  ⟨some 6, .bslice 2 2 [.bool false, .int .i64 0, .bool false, .int .i64 0] [(0, 2, .tmp 4), (2, 2, .tmp 5)], none, []⟩,
  ⟨some 7, .build [.int .i64 0, .slice none 0 0] [(1, 1, .tmp 6)], none, []⟩,
  ⟨some 8, .bslice 2 2 [.int .i64 0, .slice none 0 0, .int .i64 0, .slice none 0 0] [(0, 2, .tmp 3), (2, 2, .tmp 7)], none, []⟩,
  ⟨some 9, .build [.int .i64 0, .int .i64 0, .int .i64 0, .slice none 0 0] [(0, 1, .const (.int .i64 2)), (1, 1, .const (.int .i64 1)), (3, 1, .tmp 8)], none, []⟩,
  ⟨none, .store 4 (.tmp 0) (.tmp 9), none, []⟩]
def F.parlkeep5_plain.c : ACode := .seq (.region F.parlkeep5_plain.r0) (.seq (.region F.parlkeep5_plain.r1) (.ret))
def F.parlkeep5_plain : AFunc := ⟨F.parlkeep5_plain.c, [.cell 0 4 true]⟩
/-! parlance/parlkeep5.below -/
def F.parlkeep5_below.r0 : List DOp := [
  ⟨some 4, .mv (.const (.int .i64 0)), none, []⟩]
def F.parlkeep5_below.r1 : List DOp := [
  ⟨some 5, .mv (.tmp 0), none, []⟩,
  ⟨some 6, .mv (.tmp 1), none, []⟩,
  ⟨some 7, .call I.parlmake_Below [.tmp 5, .tmp 6], none, []⟩,
  ⟨some 4, .mv (.tmp 7), none, []⟩]
def F.parlkeep5_below.c : ACode := .seq (.region F.parlkeep5_below.r0) (.seq (.region F.parlkeep5_below.r1) (.ret))
def F.parlkeep5_below : AFunc := ⟨F.parlkeep5_below.c, [.tmp 4]⟩
/-! parlance/parlkeep5.ShrinkTree$1 -/
def F.parlkeep5_ShrinkTree_1.r0 : List DOp := [
  ⟨some 2, .box (.tmp 0), none, []⟩,
  ⟨some 3, .mv (.const (.bool false)), none, []⟩]
def F.parlkeep5_ShrinkTree_1.r1 : List DOp := [
  ⟨some 4, .load 3 true (.tmp 2), none, []⟩,
  ⟨some 5, .call I.tree_Word [.tmp 4], none, []⟩,
  ⟨some 6, .len (.tmp 5), none, []⟩,
  ⟨some 7, .load 1 false (.tmp 1), none, []⟩,
  ⟨some 8, .bin .add (.tmp 6) (.tmp 7), none, []⟩,
  ⟨some 9, .bin .rem (.tmp 8) (.const (.int .i64 2)), none, []⟩,
  ⟨some 10, .bin .eql (.tmp 9) (.const (.int .i64 0)), none, []⟩,
  ⟨some 11, .mv (.tmp 10), none, []⟩,
  ⟨some 12, .load 3 true (.tmp 2), (some (11, false)), []⟩,
  ⟨some 13, .call I.tree_Size [.tmp 12], (some (11, false)), []⟩,
  ⟨some 14, .bin .gtr (.tmp 13) (.const (.int .i64 9)), (some (11, false)), []⟩,
  ⟨some 15, .pick (.tmp 11) (.const (.bool true)) (.tmp 14), none, []⟩,
  ⟨some 3, .mv (.tmp 15), none, []⟩]
def F.parlkeep5_ShrinkTree_1.c : ACode := .seq (.region F.parlkeep5_ShrinkTree_1.r0) (.seq (.draw F.parlkeep5_ShrinkTree_1.r1 [(3, 1)]) (.ret))
def F.parlkeep5_ShrinkTree_1 : AFunc := ⟨F.parlkeep5_ShrinkTree_1.c, [.tmp 3]⟩
end Go.Proofs.Ythgdobdhdfjhfaa
