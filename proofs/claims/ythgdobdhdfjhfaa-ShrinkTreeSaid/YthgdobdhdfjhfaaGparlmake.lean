/- The abstract code of package parlmake, written by wip/tools/gen.py from the translation. -/
import Derived.Test.YthgdobdhdfjhfaaI
namespace Go.Proofs.Ythgdobdhdfjhfaa
open Go Go.Ab
/-! parlance/parlmake.Grammar -/
def F.parlmake_Grammar.r0 : List DOp := [
  ⟨some 2, .alloc [.int .i64 0, .int .i64 0, .int .i64 0, .slice none 0 0], none, []⟩]
def F.parlmake_Grammar.r1 : List DOp := [
  ⟨some 6, .mv (.tmp 0), none, []⟩,
  ⟨some 7, .build [.slice none 0 0] [(0, 1, .tmp 6)], none, []⟩,
  ⟨some 8, .box (.tmp 7), none, []⟩,
  ⟨some 3, .mv (.tmp 8), none, []⟩]
def F.parlmake_Grammar.r2 : List DOp := [
  ⟨some 9, .mv (.tmp 3), none, []⟩,
  ⟨some 10, .call I.parlmake_stream_next [.tmp 9, .const (.int .i64 3)], none, []⟩,
  ⟨some 11, .bin .add (.const (.int .i64 1)) (.tmp 10), none, []⟩,
  ⟨some 12, .mv (.tmp 3), none, []⟩,
  ⟨some 13, .call I.parlmake_stream_next [.tmp 12, .const (.int .i64 4)], none, []⟩,
  ⟨some 14, .bin .add (.const (.int .i64 1)) (.tmp 13), none, []⟩,
  ⟨some 15, .build [.int .i64 0, .int .i64 0, .int .i64 0, .slice none 0 0] [(0, 1, .tmp 11), (1, 1, .tmp 14)], none, []⟩,
  ⟨some 4, .alloc [.int .i64 0, .int .i64 0, .int .i64 0, .slice none 0 0], none, []⟩,
  ⟨none, .store 4 (.tmp 4) (.tmp 15), none, []⟩]
def F.parlmake_Grammar.r3 : List DOp := [
  ⟨some 16, .mv (.tmp 3), none, []⟩,
  ⟨some 17, .faddr 1 (.tmp 4), none, []⟩,
  ⟨some 18, .load 1 false (.tmp 17), none, []⟩,
  ⟨some 19, .call I.parlmake_stream_next [.tmp 16, .tmp 18], none, []⟩,
  ⟨some 20, .faddr 2 (.tmp 4), none, []⟩,
  ⟨none, .store 1 (.tmp 20) (.tmp 19), none, []⟩]
def F.parlmake_Grammar.r4 : List DOp := [
  ⟨some 21, .mv (.tmp 3), none, []⟩,
  ⟨some 22, .call I.parlmake_stream_next [.tmp 21, .const (.int .i64 8)], none, []⟩,
  ⟨some 23, .bin .add (.const (.int .i64 1)) (.tmp 22), none, []⟩,
  ⟨some 24, .mv (.const (.int .i64 0)), none, []⟩]
def F.parlmake_Grammar.r5 : List DOp := [
  ⟨some 25, .bin .lss (.tmp 24) (.tmp 23), none, []⟩]
def F.parlmake_Grammar.r6 : List DOp := [
  ⟨some 26, .mv (.tmp 3), none, []⟩,
  ⟨some 27, .faddr 1 (.tmp 4), none, []⟩,
  ⟨some 28, .load 1 false (.tmp 27), none, []⟩,
  ⟨some 29, .call I.parlmake_stream_next [.tmp 26, .tmp 28], none, []⟩,
  ⟨some 30, .build [.int .i64 0, .slice none 0 0] [(0, 1, .tmp 29)], none, []⟩,
  ⟨some 5, .alloc [.int .i64 0, .slice none 0 0], none, []⟩,
  ⟨none, .store 2 (.tmp 5) (.tmp 30), none, []⟩]
def F.parlmake_Grammar.r7 : List DOp := [
  ⟨some 31, .mv (.tmp 3), none, []⟩,
  ⟨some 32, .call I.parlmake_stream_next [.tmp 31, .const (.int .i64 4)], none, []⟩,
  ⟨some 33, .mv (.const (.int .i64 0)), none, []⟩]
def F.parlmake_Grammar.r8 : List DOp := [
  ⟨some 34, .bin .lss (.tmp 33) (.tmp 32), none, []⟩]
def F.parlmake_Grammar.r9 : List DOp := [
  ⟨some 35, .mv (.tmp 3), none, []⟩,
  ⟨some 36, .call I.parlmake_stream_next [.tmp 35, .const (.int .i64 2)], none, []⟩,
  ⟨some 37, .bin .eql (.tmp 36) (.const (.int .i64 0)), none, []⟩]
def F.parlmake_Grammar.r10 : List DOp := [
  ⟨some 38, .faddr 1 (.tmp 5), none, []⟩,
  ⟨some 39, .load 1 false (.tmp 38), none, []⟩,
  ⟨some 40, .mv (.tmp 3), none, []⟩,
  ⟨some 41, .faddr 0 (.tmp 4), none, []⟩,
  ⟨some 42, .load 1 false (.tmp 41), none, []⟩,
  ⟨some 43, .call I.parlmake_stream_next [.tmp 40, .tmp 42], none, []⟩,
  ⟨some 44, .build [.bool false, .int .i64 0] [(0, 1, .const (.bool true)), (1, 1, .tmp 43)], none, []⟩,
  ⟨some 45, .bslice 2 1 [.bool false, .int .i64 0] [(0, 2, .tmp 44)], none, []⟩,
  ⟨some 46, .append 2 16 (.tmp 39) (.tmp 45), none, []⟩,
  ⟨some 47, .faddr 1 (.tmp 5), none, []⟩,
  ⟨none, .store 1 (.tmp 47) (.tmp 46), none, []⟩]
def F.parlmake_Grammar.r11 : List DOp := [
  ⟨some 48, .faddr 1 (.tmp 5), none, []⟩,
  ⟨some 49, .load 1 false (.tmp 48), none, []⟩,
  ⟨some 50, .mv (.tmp 3), none, []⟩,
  ⟨some 51, .faddr 1 (.tmp 4), none, []⟩,
  ⟨some 52, .load 1 false (.tmp 51), none, []⟩,
  ⟨some 53, .call I.parlmake_stream_next [.tmp 50, .tmp 52], none, []⟩,
  ⟨some 54, .build [.bool false, .int .i64 0] [(1, 1, .tmp 53)], none, []⟩,
  ⟨some 55, .bslice 2 1 [.bool false, .int .i64 0] [(0, 2, .tmp 54)], none, []⟩,
  ⟨some 56, .append 2 16 (.tmp 49) (.tmp 55), none, []⟩,
  ⟨some 57, .faddr 1 (.tmp 5), none, []⟩,
  ⟨none, .store 1 (.tmp 57) (.tmp 56), none, []⟩]
def F.parlmake_Grammar.r12 : List DOp := [
  ⟨some 58, .bin .add (.tmp 33) (.const (.int .i64 1)), none, []⟩,
  ⟨some 33, .mv (.tmp 58), none, []⟩]
def F.parlmake_Grammar.L1 : ACode := .seq (.region F.parlmake_Grammar.r8) (.seq (.cond (.tmp 34) (.skip) (.exit 2)) (.seq (.block 3 (.seq (.region F.parlmake_Grammar.r9) (.cond (.tmp 37) (.draw F.parlmake_Grammar.r10 [(1, 5)]) (.draw F.parlmake_Grammar.r11 [(1, 5)])))) (.region F.parlmake_Grammar.r12)))
def F.parlmake_Grammar.r13 : List DOp := [
  ⟨some 59, .faddr 3 (.tmp 4), none, []⟩,
  ⟨some 60, .load 1 false (.tmp 59), none, []⟩,
  ⟨some 61, .load 2 true (.tmp 5), none, []⟩,
  ⟨some 62, .call I.parlmake_has [.tmp 60, .tmp 61], none, []⟩,
  ⟨some 63, .un .not (.tmp 62), none, []⟩]
def F.parlmake_Grammar.r14 : List DOp := [
  ⟨some 64, .faddr 3 (.tmp 4), none, []⟩,
  ⟨some 65, .load 1 false (.tmp 64), none, []⟩,
  ⟨some 66, .load 2 true (.tmp 5), none, []⟩,
  ⟨some 67, .bslice 2 1 [.int .i64 0, .slice none 0 0] [(0, 2, .tmp 66)], none, []⟩,
  ⟨some 68, .append 2 32 (.tmp 65) (.tmp 67), none, []⟩,
  ⟨some 69, .faddr 3 (.tmp 4), none, []⟩,
  ⟨none, .store 1 (.tmp 69) (.tmp 68), none, []⟩]
def F.parlmake_Grammar.r15 : List DOp := [
  ⟨some 70, .bin .add (.tmp 24) (.const (.int .i64 1)), none, []⟩,
  ⟨some 24, .mv (.tmp 70), none, []⟩]
def F.parlmake_Grammar.L0 : ACode := .seq (.region F.parlmake_Grammar.r5) (.seq (.cond (.tmp 25) (.skip) (.exit 0)) (.seq (.block 1 (.seq (.region F.parlmake_Grammar.r6) (.seq (.seq (.region F.parlmake_Grammar.r7) (.block 2 (.loop F.parlmake_Grammar.L1))) (.seq (.region F.parlmake_Grammar.r13) (.cond (.tmp 63) (.region F.parlmake_Grammar.r14) (.skip)))))) (.region F.parlmake_Grammar.r15)))
def F.parlmake_Grammar.r16 : List DOp := [
  ⟨some 71, .load 4 true (.tmp 4), none, []⟩,
  ⟨none, .store 4 (.tmp 2) (.tmp 71), none, []⟩]
def F.parlmake_Grammar.c : ACode := .seq (.region F.parlmake_Grammar.r0) (.seq (.region F.parlmake_Grammar.r1) (.seq (.region F.parlmake_Grammar.r2) (.seq (.region F.parlmake_Grammar.r3) (.seq (.seq (.region F.parlmake_Grammar.r4) (.block 0 (.loop F.parlmake_Grammar.L0))) (.seq (.region F.parlmake_Grammar.r16) (.ret))))))
def F.parlmake_Grammar : AFunc := ⟨F.parlmake_Grammar.c, [.cell 2 4 true]⟩
/-! parlance/parlmake.Tree -/
def F.parlmake_Tree.r0 : List DOp := [
  ⟨some 2, .box (.tmp 0), none, []⟩,
  ⟨some 4, .alloc [.int .i64 0, .int .i64 0, .slice none 0 0], none, []⟩,
  ⟨some 5, .mv (.const (.bool false)), none, []⟩]
def F.parlmake_Tree.r1 : List DOp := [
  ⟨some 6, .alloc [.int .i64 0], none, []⟩,
  ⟨none, .store 1 (.tmp 6) (.const (.int .i64 60)), none, []⟩]
def F.parlmake_Tree.r2 : List DOp := [
  ⟨some 7, .load 4 true (.tmp 2), none, []⟩,
  ⟨some 8, .faddr 2 (.tmp 2), none, []⟩,
  ⟨some 9, .load 1 false (.tmp 8), none, []⟩,
  ⟨some 10, .build [.bool false, .int .i64 0] [(1, 1, .tmp 9)], none, []⟩,
  ⟨some 11, .mv (.tmp 1), none, []⟩,
  ⟨some 12, .build [.slice none 0 0] [(0, 1, .tmp 11)], none, []⟩,
  ⟨some 13, .box (.tmp 12), none, []⟩,
  ⟨some 14, .call I.parlmake_tree [.tmp 7, .tmp 10, .tmp 13, .tmp 6, .const (.int .i64 12)], none, []⟩,
  ⟨some 15, .extract (.tmp 14) 0, none, []⟩,
  ⟨some 16, .extract (.tmp 14) 1, none, []⟩,
  ⟨none, .store 3 (.tmp 4) (.tmp 15), none, []⟩,
  ⟨some 5, .mv (.tmp 16), none, []⟩]
def F.parlmake_Tree.c : ACode := .seq (.region F.parlmake_Tree.r0) (.seq (.region F.parlmake_Tree.r1) (.seq (.region F.parlmake_Tree.r2) (.ret)))
def F.parlmake_Tree : AFunc := ⟨F.parlmake_Tree.c, [.cell 4 3 true, .tmp 5]⟩
/-! (*parlance/parlmake.stream).next -/
def F.parlmake_stream_next.r0 : List DOp := [
  ⟨some 4, .mv (.const (.int .i64 0)), none, []⟩]
def F.parlmake_stream_next.r1 : List DOp := [
  ⟨some 6, .mv (.tmp 0), none, []⟩,
  ⟨some 7, .nilchk (.tmp 6), none, []⟩,
  ⟨some 8, .faddr 0 (.tmp 7), none, []⟩,
  ⟨some 9, .load 1 false (.tmp 8), none, []⟩,
  ⟨some 10, .len (.tmp 9), none, []⟩,
  ⟨some 11, .bin .eql (.tmp 10) (.const (.int .i64 0)), none, []⟩]
def F.parlmake_stream_next.r2 : List DOp := [
  ⟨some 4, .mv (.const (.int .i64 0)), none, []⟩]
def F.parlmake_stream_next.r3 : List DOp := [
  ⟨some 12, .mv (.tmp 0), none, []⟩,
  ⟨some 13, .nilchk (.tmp 12), none, []⟩,
  ⟨some 14, .faddr 0 (.tmp 13), none, []⟩,
  ⟨some 15, .load 1 false (.tmp 14), none, []⟩,
  ⟨some 16, .idxs 1 (.tmp 15) (.const (.int .i64 0)), none, []⟩,
  ⟨some 17, .load 1 false (.tmp 16), none, []⟩,
  ⟨some 5, .mv (.tmp 17), none, []⟩]
def F.parlmake_stream_next.r4 : List DOp := [
  ⟨some 18, .mv (.tmp 0), none, []⟩,
  ⟨some 19, .mv (.tmp 0), none, []⟩,
  ⟨some 20, .nilchk (.tmp 19), none, []⟩,
  ⟨some 21, .faddr 0 (.tmp 20), none, []⟩,
  ⟨some 22, .load 1 false (.tmp 21), none, []⟩,
  ⟨some 23, .slice 1 (.tmp 22) (some (.const (.int .i64 1))) none, none, []⟩,
  ⟨some 24, .nilchk (.tmp 18), none, []⟩,
  ⟨some 25, .faddr 0 (.tmp 24), none, []⟩,
  ⟨none, .store 1 (.tmp 25) (.tmp 23), none, []⟩]
def F.parlmake_stream_next.r5 : List DOp := [
  ⟨some 26, .mv (.tmp 5), none, []⟩,
  ⟨some 27, .mv (.tmp 1), none, []⟩,
  ⟨some 28, .call I.parlmake_Below [.tmp 26, .tmp 27], none, []⟩,
  ⟨some 4, .mv (.tmp 28), none, []⟩]
def F.parlmake_stream_next.c : ACode := .seq (.region F.parlmake_stream_next.r0) (.seq (.seq (.region F.parlmake_stream_next.r1) (.cond (.tmp 11) (.seq (.region F.parlmake_stream_next.r2) (.ret)) (.skip))) (.seq (.region F.parlmake_stream_next.r3) (.seq (.region F.parlmake_stream_next.r4) (.seq (.region F.parlmake_stream_next.r5) (.ret)))))
def F.parlmake_stream_next : AFunc := ⟨F.parlmake_stream_next.c, [.tmp 4]⟩
/-! parlance/parlmake.has -/
def F.parlmake_has.r0 : List DOp := [
  ⟨some 3, .box (.tmp 1), none, []⟩,
  ⟨some 4, .mv (.const (.bool false)), none, []⟩]
def F.parlmake_has.r1 : List DOp := [
  ⟨some 9, .mv (.tmp 0), none, []⟩,
  ⟨some 10, .len (.tmp 9), none, []⟩,
  ⟨some 11, .mv (.const (.int .i64 0)), none, []⟩]
def F.parlmake_has.r2 : List DOp := [
  ⟨some 12, .bin .lss (.tmp 11) (.tmp 10), none, []⟩]
def F.parlmake_has.r3 : List DOp := [
  ⟨some 13, .idxs 2 (.tmp 9) (.tmp 11), none, []⟩,
  ⟨some 14, .load 2 true (.tmp 13), none, []⟩,
  ⟨some 6, .alloc [.int .i64 0, .slice none 0 0], none, []⟩,
  ⟨none, .store 2 (.tmp 6) (.tmp 14), none, []⟩]
def F.parlmake_has.r4 : List DOp := [
  ⟨some 15, .faddr 0 (.tmp 6), none, []⟩,
  ⟨some 16, .load 1 false (.tmp 15), none, []⟩,
  ⟨some 17, .faddr 0 (.tmp 3), none, []⟩,
  ⟨some 18, .load 1 false (.tmp 17), none, []⟩,
  ⟨some 19, .bin .neq (.tmp 16) (.tmp 18), none, []⟩,
  ⟨some 20, .mv (.tmp 19), none, []⟩,
  ⟨some 21, .faddr 1 (.tmp 6), (some (20, false)), []⟩,
  ⟨some 22, .load 1 false (.tmp 21), (some (20, false)), []⟩,
  ⟨some 23, .len (.tmp 22), (some (20, false)), []⟩,
  ⟨some 24, .faddr 1 (.tmp 3), (some (20, false)), []⟩,
  ⟨some 25, .load 1 false (.tmp 24), (some (20, false)), []⟩,
  ⟨some 26, .len (.tmp 25), (some (20, false)), []⟩,
  ⟨some 27, .bin .neq (.tmp 23) (.tmp 26), (some (20, false)), []⟩,
  ⟨some 28, .pick (.tmp 20) (.const (.bool true)) (.tmp 27), none, []⟩]
def F.parlmake_has.r5 : List DOp := [
  ⟨some 7, .mv (.const (.bool true)), none, []⟩]
def F.parlmake_has.r6 : List DOp := [
  ⟨some 29, .faddr 1 (.tmp 6), none, []⟩,
  ⟨some 30, .load 1 false (.tmp 29), none, []⟩,
  ⟨some 31, .len (.tmp 30), none, []⟩,
  ⟨some 32, .mv (.const (.int .i64 0)), none, []⟩]
def F.parlmake_has.r7 : List DOp := [
  ⟨some 33, .bin .lss (.tmp 32) (.tmp 31), none, []⟩]
def F.parlmake_has.r8 : List DOp := [
  ⟨some 34, .mv (.tmp 32), none, []⟩,
  ⟨some 8, .mv (.tmp 34), none, []⟩]
def F.parlmake_has.r9 : List DOp := [
  ⟨some 35, .mv (.tmp 7), none, []⟩,
  ⟨some 36, .mv (.tmp 35), none, []⟩,
  ⟨some 37, .faddr 1 (.tmp 6), (some (36, true)), []⟩,
  ⟨some 38, .load 1 false (.tmp 37), (some (36, true)), []⟩,
  ⟨some 39, .mv (.tmp 8), (some (36, true)), []⟩,
  ⟨some 40, .idxs 2 (.tmp 38) (.tmp 39), (some (36, true)), []⟩,
  ⟨some 41, .load 2 true (.tmp 40), (some (36, true)), []⟩,
  ⟨some 42, .faddr 1 (.tmp 3), (some (36, true)), []⟩,
  ⟨some 43, .load 1 false (.tmp 42), (some (36, true)), []⟩,
  ⟨some 44, .mv (.tmp 8), (some (36, true)), []⟩,
  ⟨some 45, .idxs 2 (.tmp 43) (.tmp 44), (some (36, true)), []⟩,
  ⟨some 46, .load 2 true (.tmp 45), (some (36, true)), []⟩,
  ⟨some 47, .eq false (.struct [(0, .bool), (1, .int)]) (.tmp 41) (.tmp 46), (some (36, true)), []⟩,
  ⟨some 48, .pick (.tmp 36) (.tmp 47) (.const (.bool false)), none, []⟩,
  ⟨some 7, .mv (.tmp 48), none, []⟩]
def F.parlmake_has.r10 : List DOp := [
  ⟨some 49, .bin .add (.tmp 32) (.const (.int .i64 1)), none, []⟩,
  ⟨some 32, .mv (.tmp 49), none, []⟩]
def F.parlmake_has.L1 : ACode := .seq (.region F.parlmake_has.r7) (.seq (.cond (.tmp 33) (.skip) (.exit 2)) (.seq (.block 3 (.seq (.region F.parlmake_has.r8) (.draw F.parlmake_has.r9 []))) (.region F.parlmake_has.r10)))
def F.parlmake_has.r11 : List DOp := [
  ⟨some 50, .mv (.tmp 7), none, []⟩]
def F.parlmake_has.r12 : List DOp := [
  ⟨some 4, .mv (.const (.bool true)), none, []⟩]
def F.parlmake_has.r13 : List DOp := [
  ⟨some 51, .bin .add (.tmp 11) (.const (.int .i64 1)), none, []⟩,
  ⟨some 11, .mv (.tmp 51), none, []⟩]
def F.parlmake_has.L0 : ACode := .seq (.region F.parlmake_has.r2) (.seq (.cond (.tmp 12) (.skip) (.exit 0)) (.seq (.block 1 (.seq (.region F.parlmake_has.r3) (.seq (.seq (.region F.parlmake_has.r4) (.cond (.tmp 28) (.exit 1) (.skip))) (.seq (.region F.parlmake_has.r5) (.seq (.seq (.region F.parlmake_has.r6) (.block 2 (.loop F.parlmake_has.L1))) (.seq (.region F.parlmake_has.r11) (.cond (.tmp 50) (.seq (.region F.parlmake_has.r12) (.ret)) (.skip)))))))) (.region F.parlmake_has.r13)))
def F.parlmake_has.r14 : List DOp := [
  ⟨some 4, .mv (.const (.bool false)), none, []⟩]
def F.parlmake_has.c : ACode := .seq (.region F.parlmake_has.r0) (.seq (.seq (.region F.parlmake_has.r1) (.block 0 (.loop F.parlmake_has.L0))) (.seq (.region F.parlmake_has.r14) (.ret)))
def F.parlmake_has : AFunc := ⟨F.parlmake_has.c, [.tmp 4]⟩
/-! parlance/parlmake.tree -/
def F.parlmake_tree.r0 : List DOp := [
  ⟨some 5, .box (.tmp 0), none, []⟩,
  ⟨some 6, .box (.tmp 1), none, []⟩,
  ⟨some 10, .alloc [.int .i64 0, .int .i64 0, .slice none 0 0], none, []⟩,
  ⟨some 11, .mv (.const (.bool false)), none, []⟩]
def F.parlmake_tree.r1 : List DOp := [
  ⟨some 20, .mv (.tmp 3), none, []⟩,
  ⟨some 21, .nilchk (.tmp 20), none, []⟩,
  ⟨some 22, .load 1 false (.tmp 21), none, []⟩,
  ⟨some 23, .bin .sub (.tmp 22) (.const (.int .i64 1)), none, []⟩,
  ⟨some 24, .nilchk (.tmp 20), none, []⟩,
  ⟨none, .store 1 (.tmp 24) (.tmp 23), none, []⟩]
def F.parlmake_tree.r2 : List DOp := [
  ⟨some 25, .mv (.tmp 3), none, []⟩,
  ⟨some 26, .nilchk (.tmp 25), none, []⟩,
  ⟨some 27, .load 1 false (.tmp 26), none, []⟩,
  ⟨some 28, .bin .lss (.tmp 27) (.const (.int .i64 0)), none, []⟩,
  ⟨some 29, .mv (.tmp 28), none, []⟩,
  ⟨some 30, .mv (.tmp 4), (some (29, false)), []⟩,
  ⟨some 31, .bin .lss (.tmp 30) (.const (.int .i64 0)), (some (29, false)), []⟩,
  ⟨some 32, .pick (.tmp 29) (.const (.bool true)) (.tmp 31), none, []⟩]
def F.parlmake_tree.r3 : List DOp := [
  ⟨some 33, .build [.int .i64 0, .int .i64 0, .slice none 0 0] [], none, []⟩,
  ⟨none, .store 3 (.tmp 10) (.tmp 33), none, []⟩,
  ⟨some 11, .mv (.const (.bool false)), none, []⟩]
def F.parlmake_tree.r4 : List DOp := [
  ⟨some 34, .faddr 0 (.tmp 6), none, []⟩,
  ⟨some 35, .load 1 false (.tmp 34), none, []⟩]
def F.parlmake_tree.r5 : List DOp := [
  ⟨some 36, .faddr 1 (.tmp 6), none, []⟩,
  ⟨some 37, .load 1 false (.tmp 36), none, []⟩,
  ⟨some 38, .build [.int .i64 0, .int .i64 0, .slice none 0 0] [(0, 1, .const (.int .i64 (-1))), (1, 1, .tmp 37)], none, []⟩,
  ⟨none, .store 3 (.tmp 10) (.tmp 38), none, []⟩,
  ⟨some 11, .mv (.const (.bool true)), none, []⟩]
def F.parlmake_tree.r6 : List DOp := [
  ⟨some 12, .mv (.const (.slice none 0 0)), none, []⟩]
def F.parlmake_tree.r7 : List DOp := [
  ⟨some 39, .faddr 3 (.tmp 5), none, []⟩,
  ⟨some 40, .load 1 false (.tmp 39), none, []⟩,
  ⟨some 41, .len (.tmp 40), none, []⟩,
  ⟨some 42, .mv (.const (.int .i64 0)), none, []⟩]
def F.parlmake_tree.r8 : List DOp := [
  ⟨some 43, .bin .lss (.tmp 42) (.tmp 41), none, []⟩]
def F.parlmake_tree.r9 : List DOp := [
  ⟨some 44, .mv (.tmp 42), none, []⟩,
  ⟨some 45, .idxs 2 (.tmp 40) (.tmp 42), none, []⟩,
  ⟨some 46, .load 2 true (.tmp 45), none, []⟩,
  ⟨some 14, .alloc [.int .i64 0, .slice none 0 0], none, []⟩,
  ⟨some 13, .mv (.tmp 44), none, []⟩,
  ⟨none, .store 2 (.tmp 14) (.tmp 46), none, []⟩]
def F.parlmake_tree.r10 : List DOp := [
  ⟨some 47, .faddr 0 (.tmp 14), none, []⟩,
  ⟨some 48, .load 1 false (.tmp 47), none, []⟩,
  ⟨some 49, .faddr 1 (.tmp 6), none, []⟩,
  ⟨some 50, .load 1 false (.tmp 49), none, []⟩,
  ⟨some 51, .bin .eql (.tmp 48) (.tmp 50), none, []⟩]
def F.parlmake_tree.r11 : List DOp := [
  ⟨some 52, .mv (.tmp 12), none, []⟩,
  ⟨some 53, .mv (.tmp 13), none, []⟩,
  ⟨some 54, .bslice 1 1 [.int .i64 0] [(0, 1, .tmp 53)], none, []⟩,
  ⟨some 55, .append 1 8 (.tmp 52) (.tmp 54), none, []⟩,
  ⟨some 12, .mv (.tmp 55), none, []⟩]
def F.parlmake_tree.r12 : List DOp := [
  ⟨some 56, .bin .add (.tmp 42) (.const (.int .i64 1)), none, []⟩,
  ⟨some 42, .mv (.tmp 56), none, []⟩]
def F.parlmake_tree.L0 : ACode := .seq (.region F.parlmake_tree.r8) (.seq (.cond (.tmp 43) (.skip) (.exit 0)) (.seq (.block 1 (.seq (.region F.parlmake_tree.r9) (.seq (.region F.parlmake_tree.r10) (.cond (.tmp 51) (.region F.parlmake_tree.r11) (.skip))))) (.region F.parlmake_tree.r12)))
def F.parlmake_tree.r13 : List DOp := [
  ⟨some 57, .mv (.tmp 12), none, []⟩,
  ⟨some 58, .len (.tmp 57), none, []⟩,
  ⟨some 59, .bin .eql (.tmp 58) (.const (.int .i64 0)), none, []⟩]
def F.parlmake_tree.r14 : List DOp := [
  ⟨some 60, .build [.int .i64 0, .int .i64 0, .slice none 0 0] [], none, []⟩,
  ⟨none, .store 3 (.tmp 10) (.tmp 60), none, []⟩,
  ⟨some 11, .mv (.const (.bool false)), none, []⟩]
def F.parlmake_tree.r15 : List DOp := [
  ⟨some 61, .mv (.tmp 12), none, []⟩,
  ⟨some 62, .mv (.tmp 2), none, []⟩,
  ⟨some 63, .mv (.tmp 12), none, []⟩,
  ⟨some 64, .len (.tmp 63), none, []⟩,
  ⟨some 65, .call I.parlmake_stream_next [.tmp 62, .tmp 64], none, []⟩,
  ⟨some 66, .idxs 1 (.tmp 61) (.tmp 65), none, []⟩,
  ⟨some 67, .load 1 false (.tmp 66), none, []⟩,
  ⟨some 68, .build [.int .i64 0, .int .i64 0, .slice none 0 0] [(0, 1, .tmp 67)], none, []⟩,
  ⟨some 15, .alloc [.int .i64 0, .int .i64 0, .slice none 0 0], none, []⟩,
  ⟨none, .store 3 (.tmp 15) (.tmp 68), none, []⟩]
def F.parlmake_tree.r16 : List DOp := [
  ⟨some 69, .faddr 3 (.tmp 5), none, []⟩,
  ⟨some 70, .load 1 false (.tmp 69), none, []⟩,
  ⟨some 71, .faddr 0 (.tmp 15), none, []⟩,
  ⟨some 72, .load 1 false (.tmp 71), none, []⟩,
  ⟨some 73, .idxs 2 (.tmp 70) (.tmp 72), none, []⟩,
  ⟨some 74, .faddr 1 (.tmp 73), none, []⟩,
  ⟨some 75, .load 1 false (.tmp 74), none, []⟩,
  ⟨some 76, .len (.tmp 75), none, []⟩,
  ⟨some 77, .mv (.const (.int .i64 0)), none, []⟩]
def F.parlmake_tree.r17 : List DOp := [
  ⟨some 78, .bin .lss (.tmp 77) (.tmp 76), none, []⟩]
def F.parlmake_tree.r18 : List DOp := [
  ⟨some 79, .idxs 2 (.tmp 75) (.tmp 77), none, []⟩,
  ⟨some 80, .load 2 true (.tmp 79), none, []⟩,
  ⟨some 17, .alloc [.bool false, .int .i64 0], none, []⟩,
  ⟨none, .store 2 (.tmp 17) (.tmp 80), none, []⟩]
def F.parlmake_tree.r19 : List DOp := [
  ⟨some 82, .load 4 true (.tmp 5), none, []⟩,
  ⟨some 83, .load 2 true (.tmp 17), none, []⟩,
  ⟨some 84, .mv (.tmp 2), none, []⟩,
  ⟨some 85, .mv (.tmp 3), none, []⟩,
  ⟨some 86, .mv (.tmp 4), none, []⟩,
  ⟨some 87, .bin .sub (.tmp 86) (.const (.int .i64 1)), none, []⟩,
  ⟨some 88, .call I.parlmake_tree [.tmp 82, .tmp 83, .tmp 84, .tmp 85, .tmp 87], none, []⟩,
  ⟨some 81, .mv (.tmp 88), none, []⟩,
  ⟨some 89, .extract (.tmp 81) 0, none, []⟩,
  ⟨some 90, .extract (.tmp 81) 1, none, []⟩,
  ⟨some 18, .alloc [.int .i64 0, .int .i64 0, .slice none 0 0], none, []⟩,
  ⟨none, .store 3 (.tmp 18) (.tmp 89), none, []⟩,
  ⟨some 19, .mv (.tmp 90), none, []⟩]
def F.parlmake_tree.r20 : List DOp := [
  ⟨some 91, .mv (.tmp 19), none, []⟩,
  ⟨some 92, .un .not (.tmp 91), none, []⟩]
def F.parlmake_tree.r21 : List DOp := [
  ⟨some 93, .build [.int .i64 0, .int .i64 0, .slice none 0 0] [], none, []⟩,
  ⟨none, .store 3 (.tmp 10) (.tmp 93), none, []⟩,
  ⟨some 11, .mv (.const (.bool false)), none, []⟩]
def F.parlmake_tree.r22 : List DOp := [
  ⟨some 94, .faddr 2 (.tmp 15), none, []⟩,
  ⟨some 95, .load 1 false (.tmp 94), none, []⟩,
  ⟨some 96, .load 3 true (.tmp 18), none, []⟩,
  ⟨some 97, .bslice 3 1 [.int .i64 0, .int .i64 0, .slice none 0 0] [(0, 3, .tmp 96)], none, []⟩,
  ⟨some 98, .append 3 40 (.tmp 95) (.tmp 97), none, []⟩,
  ⟨some 99, .faddr 2 (.tmp 15), none, []⟩,
  ⟨none, .store 1 (.tmp 99) (.tmp 98), none, []⟩]
def F.parlmake_tree.r23 : List DOp := [
  ⟨some 100, .bin .add (.tmp 77) (.const (.int .i64 1)), none, []⟩,
  ⟨some 77, .mv (.tmp 100), none, []⟩]
def F.parlmake_tree.L1 : ACode := .seq (.region F.parlmake_tree.r17) (.seq (.cond (.tmp 78) (.skip) (.exit 2)) (.seq (.block 3 (.seq (.region F.parlmake_tree.r18) (.seq (.region F.parlmake_tree.r19) (.seq (.seq (.region F.parlmake_tree.r20) (.cond (.tmp 92) (.seq (.region F.parlmake_tree.r21) (.ret)) (.skip))) (.region F.parlmake_tree.r22))))) (.region F.parlmake_tree.r23)))
def F.parlmake_tree.r24 : List DOp := [
  ⟨some 101, .load 3 true (.tmp 15), none, []⟩,
  ⟨none, .store 3 (.tmp 10) (.tmp 101), none, []⟩,
  ⟨some 11, .mv (.const (.bool true)), none, []⟩]
def F.parlmake_tree.c : ACode := .seq (.region F.parlmake_tree.r0) (.seq (.seq (.region F.parlmake_tree.r1) (.seq (.region F.parlmake_tree.r2) (.cond (.tmp 32) (.seq (.region F.parlmake_tree.r3) (.ret)) (.skip)))) (.seq (.seq (.region F.parlmake_tree.r4) (.cond (.tmp 35) (.seq (.region F.parlmake_tree.r5) (.ret)) (.skip))) (.seq (.region F.parlmake_tree.r6) (.seq (.seq (.region F.parlmake_tree.r7) (.block 0 (.loop F.parlmake_tree.L0))) (.seq (.seq (.region F.parlmake_tree.r13) (.cond (.tmp 59) (.seq (.region F.parlmake_tree.r14) (.ret)) (.skip))) (.seq (.region F.parlmake_tree.r15) (.seq (.seq (.region F.parlmake_tree.r16) (.block 2 (.loop F.parlmake_tree.L1))) (.seq (.region F.parlmake_tree.r24) (.ret)))))))))
def F.parlmake_tree : AFunc := ⟨F.parlmake_tree.c, [.cell 10 3 true, .tmp 11]⟩
/-! parlance/parlmake.Below -/
def F.parlmake_Below.r0 : List DOp := [
  ⟨some 4, .mv (.const (.int .i64 0)), none, []⟩]
def F.parlmake_Below.r1 : List DOp := [
  ⟨some 5, .mv (.tmp 0), none, []⟩,
  ⟨some 6, .mv (.tmp 1), none, []⟩,
  ⟨some 7, .bin .rem (.tmp 5) (.tmp 6), none, []⟩,
  ⟨some 0, .mv (.tmp 7), none, []⟩]
def F.parlmake_Below.r2 : List DOp := [
  ⟨some 8, .mv (.tmp 0), none, []⟩,
  ⟨some 9, .bin .lss (.tmp 8) (.const (.int .i64 0)), none, []⟩]
def F.parlmake_Below.r3 : List DOp := [
  ⟨some 10, .mv (.tmp 0), none, []⟩,
  ⟨some 11, .mv (.tmp 1), none, []⟩,
  ⟨some 12, .bin .add (.tmp 10) (.tmp 11), none, []⟩,
  ⟨some 0, .mv (.tmp 12), none, []⟩]
def F.parlmake_Below.r4 : List DOp := [
  ⟨some 13, .mv (.tmp 0), none, []⟩,
  ⟨some 4, .mv (.tmp 13), none, []⟩]
def F.parlmake_Below.c : ACode := .seq (.region F.parlmake_Below.r0) (.seq (.region F.parlmake_Below.r1) (.seq (.seq (.region F.parlmake_Below.r2) (.cond (.tmp 9) (.region F.parlmake_Below.r3) (.skip))) (.seq (.region F.parlmake_Below.r4) (.ret))))
def F.parlmake_Below : AFunc := ⟨F.parlmake_Below.c, [.tmp 4]⟩
end Go.Proofs.Ythgdobdhdfjhfaa
