/- The abstract code of package rank, written by wip/tools/gen.py from the translation. -/
import Derived.Test.YthgdobdhdfjhfaaI
namespace Go.Proofs.Ythgdobdhdfjhfaa
open Go Go.Ab
/-! parlance/rank.Count -/
def F.rank_Count.r0 : List DOp := [
  ⟨some 2, .box (.tmp 0), none, []⟩,
  ⟨some 4, .mv (.const (.int .i64 0)), none, []⟩,
  ⟨some 5, .mv (.const (.int .i64 0)), none, []⟩]
def F.rank_Count.r1 : List DOp := [
  ⟨some 10, .load 4 true (.tmp 2), none, []⟩,
  ⟨some 11, .mv (.tmp 1), none, []⟩,
  ⟨some 12, .call I.rank_open [.tmp 10, .tmp 11], none, []⟩,
  ⟨some 9, .mv (.tmp 12), none, []⟩,
  ⟨some 13, .extract (.tmp 9) 0, none, []⟩,
  ⟨some 14, .extract (.tmp 9) 1, none, []⟩,
  ⟨some 15, .extract (.tmp 9) 2, none, []⟩,
  ⟨some 6, .mv (.tmp 13), none, []⟩,
  ⟨some 7, .mv (.tmp 14), none, []⟩,
  ⟨some 8, .mv (.tmp 15), none, []⟩]
def F.rank_Count.r2 : List DOp := [
  ⟨some 16, .mv (.tmp 7), none, []⟩,
  ⟨some 17, .mv (.tmp 8), none, []⟩,
  ⟨some 4, .mv (.tmp 16), none, []⟩,
  ⟨some 5, .mv (.tmp 17), none, []⟩]
def F.rank_Count.c : ACode := .seq (.region F.rank_Count.r0) (.seq (.region F.rank_Count.r1) (.seq (.region F.rank_Count.r2) (.ret)))
def F.rank_Count : AFunc := ⟨F.rank_Count.c, [.tmp 4, .tmp 5]⟩
/-! parlance/rank.Tree -/
def F.rank_Tree.r0 : List DOp := [
  ⟨some 3, .box (.tmp 0), none, []⟩,
  ⟨some 6, .alloc [.int .i64 0, .int .i64 0, .slice none 0 0], none, []⟩,
  ⟨some 7, .mv (.const (.int .i64 0)), none, []⟩]
def F.rank_Tree.r1 : List DOp := [
  ⟨some 12, .load 4 true (.tmp 3), none, []⟩,
  ⟨some 13, .mv (.tmp 1), none, []⟩,
  ⟨some 14, .call I.rank_open [.tmp 12, .tmp 13], none, []⟩,
  ⟨some 11, .mv (.tmp 14), none, []⟩,
  ⟨some 15, .extract (.tmp 11) 0, none, []⟩,
  ⟨some 16, .extract (.tmp 11) 1, none, []⟩,
  ⟨some 17, .extract (.tmp 11) 2, none, []⟩,
  ⟨some 8, .mv (.tmp 15), none, []⟩,
  ⟨some 9, .mv (.tmp 16), none, []⟩,
  ⟨some 10, .mv (.tmp 17), none, []⟩]
def F.rank_Tree.r2 : List DOp := [
  ⟨some 18, .mv (.tmp 10), none, []⟩,
  ⟨some 19, .bin .neq (.tmp 18) (.const (.int .i64 0)), none, []⟩]
def F.rank_Tree.r3 : List DOp := [
  ⟨some 20, .build [.int .i64 0, .int .i64 0, .slice none 0 0] [], none, []⟩,
  ⟨some 21, .mv (.tmp 10), none, []⟩,
  ⟨none, .store 3 (.tmp 6) (.tmp 20), none, []⟩,
  ⟨some 7, .mv (.tmp 21), none, []⟩]
def F.rank_Tree.r4 : List DOp := [
  ⟨some 22, .mv (.tmp 2), none, []⟩,
  ⟨some 23, .bin .lss (.tmp 22) (.const (.int .i64 0)), none, []⟩,
  ⟨some 24, .mv (.tmp 23), none, []⟩,
  ⟨some 25, .mv (.tmp 2), (some (24, false)), []⟩,
  ⟨some 26, .mv (.tmp 9), (some (24, false)), []⟩,
  ⟨some 27, .bin .geq (.tmp 25) (.tmp 26), (some (24, false)), []⟩,
  ⟨some 28, .pick (.tmp 24) (.const (.bool true)) (.tmp 27), none, []⟩]
def F.rank_Tree.r5 : List DOp := [
  ⟨some 29, .build [.int .i64 0, .int .i64 0, .slice none 0 0] [], none, []⟩,
  ⟨none, .store 3 (.tmp 6) (.tmp 29), none, []⟩,
  ⟨some 7, .mv (.const (.int .i64 5)), none, []⟩]
def F.rank_Tree.r6 : List DOp := [
  ⟨some 30, .mv (.tmp 8), none, []⟩,
  ⟨some 31, .faddr 2 (.tmp 3), none, []⟩,
  ⟨some 32, .load 1 false (.tmp 31), none, []⟩,
  ⟨some 33, .build [.bool false, .int .i64 0] [(1, 1, .tmp 32)], none, []⟩,
  ⟨some 34, .mv (.tmp 1), none, []⟩,
  ⟨some 35, .mv (.tmp 2), none, []⟩,
  ⟨some 36, .call I.rank_book_tree [.tmp 30, .tmp 33, .tmp 34, .tmp 35], none, []⟩,
  ⟨none, .store 3 (.tmp 6) (.tmp 36), none, []⟩,
  ⟨some 7, .mv (.const (.int .i64 0)), none, []⟩]
def F.rank_Tree.c : ACode := .seq (.region F.rank_Tree.r0) (.seq (.region F.rank_Tree.r1) (.seq (.seq (.region F.rank_Tree.r2) (.cond (.tmp 19) (.seq (.region F.rank_Tree.r3) (.ret)) (.skip))) (.seq (.seq (.region F.rank_Tree.r4) (.cond (.tmp 28) (.seq (.region F.rank_Tree.r5) (.ret)) (.skip))) (.seq (.region F.rank_Tree.r6) (.ret)))))
def F.rank_Tree : AFunc := ⟨F.rank_Tree.c, [.cell 6 3 true, .tmp 7]⟩
/-! parlance/rank.open -/
def F.rank_open.r0 : List DOp := [
  ⟨some 2, .box (.tmp 0), none, []⟩,
  ⟨some 4, .mv (.const (.pointer none)), none, []⟩,
  ⟨some 5, .mv (.const (.int .i64 0)), none, []⟩,
  ⟨some 6, .mv (.const (.int .i64 0)), none, []⟩]
def F.rank_open.r1 : List DOp := [
  ⟨some 11, .load 4 true (.tmp 2), none, []⟩,
  ⟨some 12, .mv (.tmp 1), none, []⟩,
  ⟨some 13, .call I.census_Trees [.tmp 11, .tmp 12], none, []⟩,
  ⟨some 10, .mv (.tmp 13), none, []⟩,
  ⟨some 14, .extract (.tmp 10) 0, none, []⟩,
  ⟨some 15, .extract (.tmp 10) 1, none, []⟩,
  ⟨some 7, .mv (.tmp 14), none, []⟩,
  ⟨some 8, .mv (.tmp 15), none, []⟩]
def F.rank_open.r2 : List DOp := [
  ⟨some 16, .mv (.tmp 8), none, []⟩,
  ⟨some 17, .bin .neq (.tmp 16) (.const (.int .i64 0)), none, []⟩]
def F.rank_open.r3 : List DOp := [
  ⟨some 18, .mv (.tmp 8), none, []⟩,
  ⟨some 4, .mv (.const (.pointer none)), none, []⟩,
  ⟨some 5, .mv (.const (.int .i64 0)), none, []⟩,
  ⟨some 6, .mv (.tmp 18), none, []⟩]
def F.rank_open.r4 : List DOp := [
  ⟨some 19, .mv (.tmp 7), none, []⟩,
  ⟨some 20, .faddr 2 (.tmp 2), none, []⟩,
  ⟨some 21, .load 1 false (.tmp 20), none, []⟩,
  ⟨some 22, .idxs 1 (.tmp 19) (.tmp 21), none, []⟩,
  ⟨some 23, .load 1 false (.tmp 22), none, []⟩,
  ⟨some 24, .mv (.tmp 1), none, []⟩,
  ⟨some 25, .idxs 1 (.tmp 23) (.tmp 24), none, []⟩,
  ⟨some 26, .load 1 false (.tmp 25), none, []⟩,
  ⟨some 9, .mv (.tmp 26), none, []⟩]
def F.rank_open.r5 : List DOp := [
  ⟨some 27, .mv (.tmp 9), none, []⟩]
def F.rank_open.r7 : List DOp := [
  ⟨some 35, .bin .eql (.tmp 27) (.const (.int .i64 (-1))), none, []⟩,
  ⟨some 34, .mv (.tmp 35), none, []⟩]
def F.rank_open.r8 : List DOp := [
  ⟨some 4, .mv (.const (.pointer none)), none, []⟩,
  ⟨some 5, .mv (.const (.int .i64 0)), none, []⟩,
  ⟨some 6, .mv (.const (.int .i64 9)), none, []⟩]
def F.rank_open.r9 : List DOp := [
  ⟨some 37, .bin .eql (.tmp 27) (.const (.int .i64 1000000000)), none, []⟩,
  ⟨some 36, .mv (.tmp 37), none, []⟩]
def F.rank_open.r10 : List DOp := [
  ⟨some 4, .mv (.const (.pointer none)), none, []⟩,
  ⟨some 5, .mv (.const (.int .i64 0)), none, []⟩,
  ⟨some 6, .mv (.const (.int .i64 2)), none, []⟩]
def F.rank_open.r6 : List DOp := [
  ⟨some 28, .load 4 true (.tmp 2), none, []⟩,
  ⟨some 29, .mv (.tmp 7), none, []⟩,
  ⟨some 30, .mkmap, none, []⟩,
  ⟨some 31, .build [.int .i64 0, .int .i64 0, .int .i64 0, .slice none 0 0, .slice none 0 0, .map none] [(0, 4, .tmp 28), (4, 1, .tmp 29), (5, 1, .tmp 30)], none, []⟩,
  ⟨some 32, .box (.tmp 31), none, []⟩,
  ⟨some 33, .mv (.tmp 9), none, []⟩,
  ⟨some 4, .mv (.tmp 32), none, []⟩,
  ⟨some 5, .mv (.tmp 33), none, []⟩,
  ⟨some 6, .mv (.const (.int .i64 0)), none, []⟩]
def F.rank_open.c : ACode := .seq (.region F.rank_open.r0) (.seq (.region F.rank_open.r1) (.seq (.seq (.region F.rank_open.r2) (.cond (.tmp 17) (.seq (.region F.rank_open.r3) (.ret)) (.skip))) (.seq (.region F.rank_open.r4) (.seq (.region F.rank_open.r5) (.block 0 (.seq (.region F.rank_open.r7) (.cond (.tmp 34) (.seq (.region F.rank_open.r8) (.ret)) (.seq (.region F.rank_open.r9) (.cond (.tmp 36) (.seq (.region F.rank_open.r10) (.ret)) (.seq (.region F.rank_open.r6) (.ret)))))))))))
def F.rank_open : AFunc := ⟨F.rank_open.c, [.tmp 4, .tmp 5, .tmp 6]⟩
/-! (*parlance/rank.book).tree -/
def F.rank_book_tree.r0 : List DOp := [
  ⟨some 5, .box (.tmp 1), none, []⟩,
  ⟨some 8, .alloc [.int .i64 0, .int .i64 0, .slice none 0 0], none, []⟩]
def F.rank_book_tree.r1 : List DOp := [
  ⟨some 12, .faddr 0 (.tmp 5), none, []⟩,
  ⟨some 13, .load 1 false (.tmp 12), none, []⟩]
def F.rank_book_tree.r2 : List DOp := [
  ⟨some 14, .faddr 1 (.tmp 5), none, []⟩,
  ⟨some 15, .load 1 false (.tmp 14), none, []⟩,
  ⟨some 16, .build [.int .i64 0, .int .i64 0, .slice none 0 0] [(0, 1, .const (.int .i64 (-1))), (1, 1, .tmp 15)], none, []⟩,
  ⟨none, .store 3 (.tmp 8) (.tmp 16), none, []⟩]
def F.rank_book_tree.r3 : List DOp := [
  ⟨some 17, .mv (.tmp 0), none, []⟩,
  ⟨some 18, .nilchk (.tmp 17), none, []⟩,
  ⟨some 19, .faddr 0 (.tmp 18), none, []⟩,
  ⟨some 20, .faddr 3 (.tmp 19), none, []⟩,
  ⟨some 21, .load 1 false (.tmp 20), none, []⟩,
  ⟨some 22, .len (.tmp 21), none, []⟩,
  ⟨some 23, .mv (.const (.int .i64 0)), none, []⟩]
def F.rank_book_tree.r4 : List DOp := [
  ⟨some 24, .bin .lss (.tmp 23) (.tmp 22), none, []⟩]
def F.rank_book_tree.r5 : List DOp := [
  ⟨some 25, .mv (.tmp 23), none, []⟩,
  ⟨some 26, .idxs 2 (.tmp 21) (.tmp 23), none, []⟩,
  ⟨some 27, .load 2 true (.tmp 26), none, []⟩,
  ⟨some 10, .alloc [.int .i64 0, .slice none 0 0], none, []⟩,
  ⟨some 9, .mv (.tmp 25), none, []⟩,
  ⟨none, .store 2 (.tmp 10) (.tmp 27), none, []⟩]
def F.rank_book_tree.r6 : List DOp := [
  ⟨some 28, .faddr 0 (.tmp 10), none, []⟩,
  ⟨some 29, .load 1 false (.tmp 28), none, []⟩,
  ⟨some 30, .faddr 1 (.tmp 5), none, []⟩,
  ⟨some 31, .load 1 false (.tmp 30), none, []⟩,
  ⟨some 32, .bin .neq (.tmp 29) (.tmp 31), none, []⟩]
def F.rank_book_tree.r7 : List DOp := [
  ⟨some 33, .mv (.tmp 0), none, []⟩,
  ⟨some 34, .mv (.tmp 9), none, []⟩,
  ⟨some 35, .mv (.tmp 2), none, []⟩,
  ⟨some 36, .call I.rank_book_ways [.tmp 33, .tmp 34, .const (.int .i64 0), .tmp 35], none, []⟩,
  ⟨some 11, .mv (.tmp 36), none, []⟩]
def F.rank_book_tree.r8 : List DOp := [
  ⟨some 37, .mv (.tmp 3), none, []⟩,
  ⟨some 38, .mv (.tmp 11), none, []⟩,
  ⟨some 39, .bin .lss (.tmp 37) (.tmp 38), none, []⟩]
def F.rank_book_tree.r9 : List DOp := [
  ⟨some 40, .mv (.tmp 9), none, []⟩,
  ⟨some 41, .mv (.tmp 0), none, []⟩,
  ⟨some 42, .mv (.tmp 9), none, []⟩,
  ⟨some 43, .mv (.tmp 2), none, []⟩,
  ⟨some 44, .mv (.tmp 3), none, []⟩,
  ⟨some 45, .call I.rank_book_kids [.tmp 41, .tmp 42, .const (.int .i64 0), .tmp 43, .tmp 44], none, []⟩,
  ⟨some 46, .build [.int .i64 0, .int .i64 0, .slice none 0 0] [(0, 1, .tmp 40), (2, 1, .tmp 45)], none, []⟩,
  ⟨none, .store 3 (.tmp 8) (.tmp 46), none, []⟩]
def F.rank_book_tree.r10 : List DOp := [
  ⟨some 47, .mv (.tmp 3), none, []⟩,
  ⟨some 48, .mv (.tmp 11), none, []⟩,
  ⟨some 49, .bin .sub (.tmp 47) (.tmp 48), none, []⟩,
  ⟨some 3, .mv (.tmp 49), none, []⟩]
def F.rank_book_tree.r11 : List DOp := [
  ⟨some 50, .bin .add (.tmp 23) (.const (.int .i64 1)), none, []⟩,
  ⟨some 23, .mv (.tmp 50), none, []⟩]
def F.rank_book_tree.L0 : ACode := .seq (.region F.rank_book_tree.r4) (.seq (.cond (.tmp 24) (.skip) (.exit 0)) (.seq (.block 1 (.seq (.region F.rank_book_tree.r5) (.seq (.seq (.region F.rank_book_tree.r6) (.cond (.tmp 32) (.exit 1) (.skip))) (.seq (.region F.rank_book_tree.r7) (.seq (.seq (.region F.rank_book_tree.r8) (.cond (.tmp 39) (.seq (.region F.rank_book_tree.r9) (.ret)) (.skip))) (.region F.rank_book_tree.r10)))))) (.region F.rank_book_tree.r11)))
def F.rank_book_tree.r12 : List DOp := [
  ⟨some 51, .build [.int .i64 0, .int .i64 0, .slice none 0 0] [], none, []⟩,
  ⟨none, .store 3 (.tmp 8) (.tmp 51), none, []⟩]
def F.rank_book_tree.c : ACode := .seq (.region F.rank_book_tree.r0) (.seq (.seq (.region F.rank_book_tree.r1) (.cond (.tmp 13) (.seq (.region F.rank_book_tree.r2) (.ret)) (.skip))) (.seq (.seq (.region F.rank_book_tree.r3) (.block 0 (.loop F.rank_book_tree.L0))) (.seq (.region F.rank_book_tree.r12) (.ret))))
def F.rank_book_tree : AFunc := ⟨F.rank_book_tree.c, [.cell 8 3 true]⟩
/-! (*parlance/rank.book).ways -/
def F.rank_book_ways.r0 : List DOp := [
  ⟨some 8, .mv (.const (.int .i64 0)), none, []⟩]
def F.rank_book_ways.r1 : List DOp := [
  ⟨some 15, .mv (.tmp 0), none, []⟩,
  ⟨some 16, .nilchk (.tmp 15), none, []⟩,
  ⟨some 17, .faddr 0 (.tmp 16), none, []⟩,
  ⟨some 18, .faddr 3 (.tmp 17), none, []⟩,
  ⟨some 19, .load 1 false (.tmp 18), none, []⟩,
  ⟨some 20, .mv (.tmp 1), none, []⟩,
  ⟨some 21, .idxs 2 (.tmp 19) (.tmp 20), none, []⟩,
  ⟨some 22, .faddr 1 (.tmp 21), none, []⟩,
  ⟨some 23, .load 1 false (.tmp 22), none, []⟩,
  ⟨some 9, .mv (.tmp 23), none, []⟩]
def F.rank_book_ways.r2 : List DOp := [
  ⟨some 24, .mv (.tmp 2), none, []⟩,
  ⟨some 25, .mv (.tmp 9), none, []⟩,
  ⟨some 26, .len (.tmp 25), none, []⟩,
  ⟨some 27, .bin .eql (.tmp 24) (.tmp 26), none, []⟩]
def F.rank_book_ways.r3 : List DOp := [
  ⟨some 28, .mv (.tmp 3), none, []⟩,
  ⟨some 29, .bin .eql (.tmp 28) (.const (.int .i64 0)), none, []⟩]
def F.rank_book_ways.r4 : List DOp := [
  ⟨some 8, .mv (.const (.int .i64 1)), none, []⟩]
def F.rank_book_ways.r5 : List DOp := [
  ⟨some 8, .mv (.const (.int .i64 0)), none, []⟩]
def F.rank_book_ways.r6 : List DOp := [
  ⟨some 30, .mv (.tmp 1), none, []⟩,
  ⟨some 31, .mv (.tmp 2), none, []⟩,
  ⟨some 32, .mv (.tmp 3), none, []⟩,
  ⟨some 33, .build [.int .i64 0, .int .i64 0, .int .i64 0] [(0, 1, .tmp 30), (1, 1, .tmp 31), (2, 1, .tmp 32)], none, []⟩,
  ⟨some 10, .alloc [.int .i64 0, .int .i64 0, .int .i64 0], none, []⟩,
  ⟨none, .store 3 (.tmp 10) (.tmp 33), none, []⟩]
def F.rank_book_ways.r7 : List DOp := [
  ⟨some 35, .mv (.tmp 0), none, []⟩,
  ⟨some 36, .nilchk (.tmp 35), none, []⟩,
  ⟨some 37, .faddr 5 (.tmp 36), none, []⟩,
  ⟨some 38, .load 1 false (.tmp 37), none, []⟩,
  ⟨some 39, .load 3 true (.tmp 10), none, []⟩,
  ⟨some 40, .mlook (.ints 3) (.int .i64 0) true (.tmp 38) (.tmp 39), none, []⟩,
  ⟨some 34, .mv (.tmp 40), none, []⟩,
  ⟨some 41, .extract (.tmp 34) 0, none, []⟩,
  ⟨some 42, .extract (.tmp 34) 1, none, []⟩,
  ⟨some 11, .mv (.tmp 41), none, []⟩,
  ⟨some 12, .mv (.tmp 42), none, []⟩]
def F.rank_book_ways.r8 : List DOp := [
  ⟨some 43, .mv (.tmp 12), none, []⟩]
def F.rank_book_ways.r9 : List DOp := [
  ⟨some 44, .mv (.tmp 11), none, []⟩,
  ⟨some 8, .mv (.tmp 44), none, []⟩]
def F.rank_book_ways.r10 : List DOp := [
  ⟨some 13, .mv (.const (.int .i64 0)), none, []⟩]
def F.rank_book_ways.r11 : List DOp := [
  ⟨some 45, .mv (.tmp 3), none, []⟩,
  ⟨some 46, .bin .add (.tmp 45) (.const (.int .i64 1)), none, []⟩,
  ⟨some 47, .mv (.const (.int .i64 0)), none, []⟩]
def F.rank_book_ways.r12 : List DOp := [
  ⟨some 48, .bin .lss (.tmp 47) (.tmp 46), none, []⟩]
def F.rank_book_ways.r13 : List DOp := [
  ⟨some 49, .mv (.tmp 47), none, []⟩,
  ⟨some 14, .mv (.tmp 49), none, []⟩]
def F.rank_book_ways.r14 : List DOp := [
  ⟨some 50, .mv (.tmp 13), none, []⟩,
  ⟨some 51, .mv (.tmp 0), none, []⟩,
  ⟨some 52, .mv (.tmp 1), none, []⟩,
  ⟨some 53, .mv (.tmp 2), none, []⟩,
  ⟨some 54, .mv (.tmp 14), none, []⟩,
  ⟨some 55, .mv (.tmp 3), none, []⟩,
  ⟨some 56, .call I.rank_book_part [.tmp 51, .tmp 52, .tmp 53, .tmp 54, .tmp 55], none, []⟩,
  ⟨some 57, .bin .add (.tmp 50) (.tmp 56), none, []⟩,
  ⟨some 13, .mv (.tmp 57), none, []⟩]
def F.rank_book_ways.r15 : List DOp := [
  ⟨some 58, .bin .add (.tmp 47) (.const (.int .i64 1)), none, []⟩,
  ⟨some 47, .mv (.tmp 58), none, []⟩]
def F.rank_book_ways.L0 : ACode := .seq (.region F.rank_book_ways.r12) (.seq (.cond (.tmp 48) (.skip) (.exit 0)) (.seq (.block 1 (.seq (.region F.rank_book_ways.r13) (.region F.rank_book_ways.r14))) (.region F.rank_book_ways.r15)))
def F.rank_book_ways.r16 : List DOp := [
  ⟨some 59, .mv (.tmp 0), none, []⟩,
  ⟨some 60, .nilchk (.tmp 59), none, []⟩,
  ⟨some 61, .faddr 5 (.tmp 60), none, []⟩,
  ⟨some 62, .load 1 false (.tmp 61), none, []⟩,
  ⟨some 63, .load 3 true (.tmp 10), none, []⟩,
  ⟨some 64, .mv (.tmp 13), none, []⟩,
  ⟨none, .mset (.ints 3) (.tmp 62) (.tmp 63) (.tmp 64), none, []⟩]
def F.rank_book_ways.r17 : List DOp := [
  ⟨some 65, .mv (.tmp 13), none, []⟩,
  ⟨some 8, .mv (.tmp 65), none, []⟩]
def F.rank_book_ways.c : ACode := .seq (.region F.rank_book_ways.r0) (.seq (.region F.rank_book_ways.r1) (.seq (.seq (.region F.rank_book_ways.r2) (.cond (.tmp 27) (.seq (.seq (.region F.rank_book_ways.r3) (.cond (.tmp 29) (.seq (.region F.rank_book_ways.r4) (.ret)) (.skip))) (.seq (.region F.rank_book_ways.r5) (.ret))) (.skip))) (.seq (.region F.rank_book_ways.r6) (.seq (.seq (.draw F.rank_book_ways.r7 []) (.seq (.region F.rank_book_ways.r8) (.cond (.tmp 43) (.seq (.region F.rank_book_ways.r9) (.ret)) (.skip)))) (.seq (.region F.rank_book_ways.r10) (.seq (.seq (.region F.rank_book_ways.r11) (.block 0 (.loop F.rank_book_ways.L0))) (.seq (.draw F.rank_book_ways.r16 []) (.seq (.region F.rank_book_ways.r17) (.ret)))))))))
def F.rank_book_ways : AFunc := ⟨F.rank_book_ways.c, [.tmp 8]⟩
/-! (*parlance/rank.book).kids -/
def F.rank_book_kids.r0 : List DOp := [
  ⟨some 10, .mv (.const (.slice none 0 0)), none, []⟩]
def F.rank_book_kids.r1 : List DOp := [
  ⟨some 14, .mv (.tmp 0), none, []⟩,
  ⟨some 15, .nilchk (.tmp 14), none, []⟩,
  ⟨some 16, .faddr 0 (.tmp 15), none, []⟩,
  ⟨some 17, .faddr 3 (.tmp 16), none, []⟩,
  ⟨some 18, .load 1 false (.tmp 17), none, []⟩,
  ⟨some 19, .mv (.tmp 1), none, []⟩,
  ⟨some 20, .idxs 2 (.tmp 18) (.tmp 19), none, []⟩,
  ⟨some 21, .faddr 1 (.tmp 20), none, []⟩,
  ⟨some 22, .load 1 false (.tmp 21), none, []⟩,
  ⟨some 11, .mv (.tmp 22), none, []⟩]
def F.rank_book_kids.r2 : List DOp := [
  ⟨some 23, .mv (.tmp 2), none, []⟩,
  ⟨some 24, .mv (.tmp 11), none, []⟩,
  ⟨some 25, .len (.tmp 24), none, []⟩,
  ⟨some 26, .bin .eql (.tmp 23) (.tmp 25), none, []⟩]
def F.rank_book_kids.r3 : List DOp := [
  ⟨some 10, .mv (.const (.slice none 0 0)), none, []⟩]
def F.rank_book_kids.r4 : List DOp := [
  ⟨some 12, .mv (.const (.int .i64 0)), none, []⟩]
def F.rank_book_kids.r5 : List DOp := [
  ⟨some 27, .mv (.tmp 12), none, []⟩,
  ⟨some 28, .mv (.tmp 3), none, []⟩,
  ⟨some 29, .bin .lss (.tmp 27) (.tmp 28), none, []⟩,
  ⟨some 30, .mv (.tmp 29), none, []⟩,
  ⟨some 31, .mv (.tmp 4), (some (30, true)), []⟩,
  ⟨some 32, .mv (.tmp 0), (some (30, true)), []⟩,
  ⟨some 33, .mv (.tmp 1), (some (30, true)), []⟩,
  ⟨some 34, .mv (.tmp 2), (some (30, true)), []⟩,
  ⟨some 35, .mv (.tmp 12), (some (30, true)), []⟩,
  ⟨some 36, .mv (.tmp 3), (some (30, true)), []⟩,
  ⟨some 37, .call I.rank_book_part [.tmp 32, .tmp 33, .tmp 34, .tmp 35, .tmp 36], (some (30, true)), []⟩,
  ⟨some 38, .bin .geq (.tmp 31) (.tmp 37), (some (30, true)), []⟩,
  ⟨some 39, .pick (.tmp 30) (.tmp 38) (.const (.bool false)), none, []⟩]
def F.rank_book_kids.r7 : List DOp := [
  ⟨some 42, .mv (.tmp 4), none, []⟩,
  ⟨some 43, .mv (.tmp 0), none, []⟩,
  ⟨some 44, .mv (.tmp 1), none, []⟩,
  ⟨some 45, .mv (.tmp 2), none, []⟩,
  ⟨some 46, .mv (.tmp 12), none, []⟩,
  ⟨some 47, .mv (.tmp 3), none, []⟩,
  ⟨some 48, .call I.rank_book_part [.tmp 43, .tmp 44, .tmp 45, .tmp 46, .tmp 47], none, []⟩,
  ⟨some 49, .bin .sub (.tmp 42) (.tmp 48), none, []⟩,
  ⟨some 4, .mv (.tmp 49), none, []⟩]
def F.rank_book_kids.r6 : List DOp := [
  ⟨some 40, .mv (.tmp 12), none, []⟩,
  ⟨some 41, .bin .add (.tmp 40) (.const (.int .i64 1)), none, []⟩,
  ⟨some 12, .mv (.tmp 41), none, []⟩]
def F.rank_book_kids.L0 : ACode := .seq (.seq (.region F.rank_book_kids.r5) (.cond (.tmp 39) (.skip) (.exit 0))) (.seq (.block 1 (.region F.rank_book_kids.r7)) (.region F.rank_book_kids.r6))
def F.rank_book_kids.r8 : List DOp := [
  ⟨some 50, .mv (.tmp 0), none, []⟩,
  ⟨some 51, .mv (.tmp 1), none, []⟩,
  ⟨some 52, .mv (.tmp 2), none, []⟩,
  ⟨some 53, .bin .add (.tmp 52) (.const (.int .i64 1)), none, []⟩,
  ⟨some 54, .mv (.tmp 3), none, []⟩,
  ⟨some 55, .mv (.tmp 12), none, []⟩,
  ⟨some 56, .bin .sub (.tmp 54) (.tmp 55), none, []⟩,
  ⟨some 57, .call I.rank_book_ways [.tmp 50, .tmp 51, .tmp 53, .tmp 56], none, []⟩,
  ⟨some 13, .mv (.tmp 57), none, []⟩]
def F.rank_book_kids.r9 : List DOp := [
  ⟨some 58, .mv (.tmp 0), none, []⟩,
  ⟨some 59, .mv (.tmp 11), none, []⟩,
  ⟨some 60, .mv (.tmp 2), none, []⟩,
  ⟨some 61, .idxs 2 (.tmp 59) (.tmp 60), none, []⟩,
  ⟨some 62, .load 2 true (.tmp 61), none, []⟩,
  ⟨some 63, .mv (.tmp 12), none, []⟩,
  ⟨some 64, .mv (.tmp 4), none, []⟩,
  ⟨some 65, .mv (.tmp 13), none, []⟩,
  ⟨some 66, .bin .quo (.tmp 64) (.tmp 65), none, []⟩,
  ⟨some 67, .call I.rank_book_tree [.tmp 58, .tmp 62, .tmp 63, .tmp 66], none, []⟩,
  ⟨some 69, .mv (.tmp 0), none, []⟩,
  ⟨some 70, .mv (.tmp 1), none, []⟩,
  ⟨some 71, .mv (.tmp 2), none, []⟩,
  ⟨some 72, .bin .add (.tmp 71) (.const (.int .i64 1)), none, []⟩,
  ⟨some 73, .mv (.tmp 3), none, []⟩,
  ⟨some 74, .mv (.tmp 12), none, []⟩,
  ⟨some 75, .bin .sub (.tmp 73) (.tmp 74), none, []⟩,
  ⟨some 76, .mv (.tmp 4), none, []⟩,
  ⟨some 77, .mv (.tmp 13), none, []⟩,
  ⟨some 78, .bin .rem (.tmp 76) (.tmp 77), none, []⟩,
  ⟨some 79, .call I.rank_book_kids [.tmp 69, .tmp 70, .tmp 72, .tmp 75, .tmp 78], none, []⟩,
  ⟨some 68, .bslice 3 1 [.int .i64 0, .int .i64 0, .slice none 0 0] [(0, 3, .tmp 67)], none, []⟩,
  ⟨some 80, .append 3 40 (.tmp 68) (.tmp 79), none, []⟩,
  ⟨some 10, .mv (.tmp 80), none, []⟩]
def F.rank_book_kids.c : ACode := .seq (.region F.rank_book_kids.r0) (.seq (.region F.rank_book_kids.r1) (.seq (.seq (.region F.rank_book_kids.r2) (.cond (.tmp 26) (.seq (.region F.rank_book_kids.r3) (.ret)) (.skip))) (.seq (.region F.rank_book_kids.r4) (.seq (.block 0 (.loop F.rank_book_kids.L0)) (.seq (.region F.rank_book_kids.r8) (.seq (.draw F.rank_book_kids.r9 []) (.ret)))))))
def F.rank_book_kids : AFunc := ⟨F.rank_book_kids.c, [.tmp 10]⟩
/-! (*parlance/rank.book).part -/
def F.rank_book_part.r0 : List DOp := [
  ⟨some 10, .mv (.const (.int .i64 0)), none, []⟩]
def F.rank_book_part.r1 : List DOp := [
  ⟨some 12, .mv (.tmp 0), none, []⟩,
  ⟨some 13, .mv (.tmp 0), none, []⟩,
  ⟨some 14, .nilchk (.tmp 13), none, []⟩,
  ⟨some 15, .faddr 0 (.tmp 14), none, []⟩,
  ⟨some 16, .faddr 3 (.tmp 15), none, []⟩,
  ⟨some 17, .load 1 false (.tmp 16), none, []⟩,
  ⟨some 18, .mv (.tmp 1), none, []⟩,
  ⟨some 19, .idxs 2 (.tmp 17) (.tmp 18), none, []⟩,
  ⟨some 20, .faddr 1 (.tmp 19), none, []⟩,
  ⟨some 21, .load 1 false (.tmp 20), none, []⟩,
  ⟨some 22, .mv (.tmp 2), none, []⟩,
  ⟨some 23, .idxs 2 (.tmp 21) (.tmp 22), none, []⟩,
  ⟨some 24, .load 2 true (.tmp 23), none, []⟩,
  ⟨some 25, .mv (.tmp 3), none, []⟩,
  ⟨some 26, .call I.rank_book_sym [.tmp 12, .tmp 24, .tmp 25], none, []⟩,
  ⟨some 11, .mv (.tmp 26), none, []⟩]
def F.rank_book_part.r2 : List DOp := [
  ⟨some 27, .mv (.tmp 11), none, []⟩,
  ⟨some 28, .bin .eql (.tmp 27) (.const (.int .i64 0)), none, []⟩]
def F.rank_book_part.r3 : List DOp := [
  ⟨some 10, .mv (.const (.int .i64 0)), none, []⟩]
def F.rank_book_part.r4 : List DOp := [
  ⟨some 29, .mv (.tmp 11), none, []⟩,
  ⟨some 30, .mv (.tmp 0), none, []⟩,
  ⟨some 31, .mv (.tmp 1), none, []⟩,
  ⟨some 32, .mv (.tmp 2), none, []⟩,
  ⟨some 33, .bin .add (.tmp 32) (.const (.int .i64 1)), none, []⟩,
  ⟨some 34, .mv (.tmp 4), none, []⟩,
  ⟨some 35, .mv (.tmp 3), none, []⟩,
  ⟨some 36, .bin .sub (.tmp 34) (.tmp 35), none, []⟩,
  ⟨some 37, .call I.rank_book_ways [.tmp 30, .tmp 31, .tmp 33, .tmp 36], none, []⟩,
  ⟨some 38, .bin .mul (.tmp 29) (.tmp 37), none, []⟩,
  ⟨some 10, .mv (.tmp 38), none, []⟩]
def F.rank_book_part.c : ACode := .seq (.region F.rank_book_part.r0) (.seq (.region F.rank_book_part.r1) (.seq (.seq (.region F.rank_book_part.r2) (.cond (.tmp 28) (.seq (.region F.rank_book_part.r3) (.ret)) (.skip))) (.seq (.region F.rank_book_part.r4) (.ret))))
def F.rank_book_part : AFunc := ⟨F.rank_book_part.c, [.tmp 10]⟩
/-! (*parlance/rank.book).sym -/
def F.rank_book_sym.r0 : List DOp := [
  ⟨some 4, .box (.tmp 1), none, []⟩,
  ⟨some 6, .mv (.const (.int .i64 0)), none, []⟩]
def F.rank_book_sym.r1 : List DOp := [
  ⟨some 7, .faddr 0 (.tmp 4), none, []⟩,
  ⟨some 8, .load 1 false (.tmp 7), none, []⟩,
  ⟨some 9, .un .not (.tmp 8), none, []⟩]
def F.rank_book_sym.r2 : List DOp := [
  ⟨some 10, .mv (.tmp 0), none, []⟩,
  ⟨some 11, .nilchk (.tmp 10), none, []⟩,
  ⟨some 12, .faddr 4 (.tmp 11), none, []⟩,
  ⟨some 13, .load 1 false (.tmp 12), none, []⟩,
  ⟨some 14, .faddr 1 (.tmp 4), none, []⟩,
  ⟨some 15, .load 1 false (.tmp 14), none, []⟩,
  ⟨some 16, .idxs 1 (.tmp 13) (.tmp 15), none, []⟩,
  ⟨some 17, .load 1 false (.tmp 16), none, []⟩,
  ⟨some 18, .mv (.tmp 2), none, []⟩,
  ⟨some 19, .idxs 1 (.tmp 17) (.tmp 18), none, []⟩,
  ⟨some 20, .load 1 false (.tmp 19), none, []⟩,
  ⟨some 6, .mv (.tmp 20), none, []⟩]
def F.rank_book_sym.r3 : List DOp := [
  ⟨some 21, .mv (.tmp 2), none, []⟩,
  ⟨some 22, .bin .eql (.tmp 21) (.const (.int .i64 1)), none, []⟩]
def F.rank_book_sym.r4 : List DOp := [
  ⟨some 6, .mv (.const (.int .i64 1)), none, []⟩]
def F.rank_book_sym.r5 : List DOp := [
  ⟨some 6, .mv (.const (.int .i64 0)), none, []⟩]
def F.rank_book_sym.c : ACode := .seq (.region F.rank_book_sym.r0) (.seq (.seq (.region F.rank_book_sym.r1) (.cond (.tmp 9) (.seq (.draw F.rank_book_sym.r2 []) (.ret)) (.skip))) (.seq (.seq (.region F.rank_book_sym.r3) (.cond (.tmp 22) (.seq (.region F.rank_book_sym.r4) (.ret)) (.skip))) (.seq (.region F.rank_book_sym.r5) (.ret))))
def F.rank_book_sym : AFunc := ⟨F.rank_book_sym.c, [.tmp 6]⟩
end Go.Proofs.Ythgdobdhdfjhfaa
