/- The abstract code of package parlmake, written by wip/tools/gen.py from the translation. -/
import Derived.Test.YthgdobdhdfjhfaaI
namespace Go.Proofs.Ythgdobdhdfjhfaa
open Go Go.Ab
/-! parlance/parlmake.Grammar -/
def F.parlmake_Grammar.r0 : List DOp := [
  ⟨some 2, .alloc [.int .i64 0, .int .i64 0, .int .i64 0, .slice none 0 0], none, []⟩]
def F.parlmake_Grammar.r1 : List DOp := [
  ⟨some 6, .mv (.tmp 0), none, []⟩,
  ⟨some 7, .build [.slice none 0 0] [(0, 1, .tmp 6)], none, []⟩,
  ⟨some 8, .box (.tmp 7), none, []⟩,
  ⟨some 3, .mv (.tmp 8), none, []⟩]
def F.parlmake_Grammar.r2 : List DOp := [
  ⟨some 9, .mv (.tmp 3), none, []⟩,
  ⟨some 10, .call I.parlmake_stream_next [.tmp 9, .const (.int .i64 3)], none, []⟩,
  ⟨some 11, .bin .add (.const (.int .i64 1)) (.tmp 10), none, []⟩,
  ⟨some 12, .mv (.tmp 3), none, []⟩,
  ⟨some 13, .call I.parlmake_stream_next [.tmp 12, .const (.int .i64 4)], none, []⟩,
  ⟨some 14, .bin .add (.const (.int .i64 1)) (.tmp 13), none, []⟩,
  ⟨some 15, .build [.int .i64 0, .int .i64 0, .int .i64 0, .slice none 0 0] [(0, 1, .tmp 11), (1, 1, .tmp 14)], none, []⟩,
  ⟨some 4, .alloc [.int .i64 0, .int .i64 0, .int .i64 0, .slice none 0 0], none, []⟩,
  ⟨none, .store 4 (.tmp 4) (.tmp 15), none, []⟩]
def F.parlmake_Grammar.r3 : List DOp := [
  ⟨some 16, .mv (.tmp 3), none, []⟩,
  ⟨some 17, .faddr 1 (.tmp 4), none, []⟩,
  ⟨some 18, .load 1 false (.tmp 17), none, []⟩,
  ⟨some 19, .call I.parlmake_stream_next [.tmp 16, .tmp 18], none, []⟩,
  ⟨some 20, .faddr 2 (.tmp 4), none, []⟩,
  ⟨none, .store 1 (.tmp 20) (.tmp 19), none, []⟩]
def F.parlmake_Grammar.r4 : List DOp := [
  ⟨some 21, .mv (.tmp 3), none, []⟩,
  ⟨some 22, .call I.parlmake_stream_next [.tmp 21, .const (.int .i64 8)], none, []⟩,
  ⟨some 23, .bin .add (.const (.int .i64 1)) (.tmp 22), none, []⟩,
  ⟨some 24, .mv (.const (.int .i64 0)), none, []⟩]
def F.parlmake_Grammar.r5 : List DOp := [
  ⟨some 25, .bin .lss (.tmp 24) (.tmp 23), none, []⟩]
def F.parlmake_Grammar.r6 : List DOp := [
  ⟨some 26, .mv (.tmp 3), none, []⟩,
  ⟨some 27, .faddr 1 (.tmp 4), none, []⟩,
  ⟨some 28, .load 1 false (.tmp 27), none, []⟩,
  ⟨some 29, .call I.parlmake_stream_next [.tmp 26, .tmp 28], none, []⟩,
  ⟨some 30, .build [.int .i64 0, .slice none 0 0] [(0, 1, .tmp 29)], none, []⟩,
  ⟨some 5, .alloc [.int .i64 0, .slice none 0 0], none, []⟩,
  ⟨none, .store 2 (.tmp 5) (.tmp 30), none, []⟩]
def F.parlmake_Grammar.r7 : List DOp := [
  ⟨some 31, .mv (.tmp 3), none, []⟩,
  ⟨some 32, .call I.parlmake_stream_next [.tmp 31, .const (.int .i64 4)], none, []⟩,
  ⟨some 33, .mv (.const (.int .i64 0)), none, []⟩]
def F.parlmake_Grammar.r8 : List DOp := [
  ⟨some 34, .bin .lss (.tmp 33) (.tmp 32), none, []⟩]
def F.parlmake_Grammar.r9 : List DOp := [
  ⟨some 35, .mv (.tmp 3), none, []⟩,
  ⟨some 36, .call I.parlmake_stream_next [.tmp 35, .const (.int .i64 2)], none, []⟩,
  ⟨some 37, .bin .eql (.tmp 36) (.const (.int .i64 0)), none, []⟩]
def F.parlmake_Grammar.r10 : List DOp := [
  ⟨some 38, .faddr 1 (.tmp 5), none, []⟩,
  ⟨some 39, .load 1 false (.tmp 38), none, []⟩,
  ⟨some 40, .mv (.tmp 3), none, []⟩,
  ⟨some 41, .faddr 0 (.tmp 4), none, []⟩,
  ⟨some 42, .load 1 false (.tmp 41), none, []⟩,
  ⟨some 43, .call I.parlmake_stream_next [.tmp 40, .tmp 42], none, []⟩,
  ⟨some 44, .build [.bool false, .int .i64 0] [(0, 1, .const (.bool true)), (1, 1, .tmp 43)], none, []⟩,
  ⟨some 45, .bslice 2 1 [.bool false, .int .i64 0] [(0, 2, .tmp 44)], none, []⟩,
  ⟨some 46, .append 2 16 (.tmp 39) (.tmp 45), none, []⟩,
  ⟨some 47, .faddr 1 (.tmp 5), none, []⟩,
  ⟨none, .store 1 (.tmp 47) (.tmp 46), none, []⟩]
def F.parlmake_Grammar.r11 : List DOp := [
  ⟨some 48, .faddr 1 (.tmp 5), none, []⟩,
  ⟨some 49, .load 1 false (.tmp 48), none, []⟩,
  ⟨some 50, .mv (.tmp 3), none, []⟩,
  ⟨some 51, .faddr 1 (.tmp 4), none, []⟩,
  ⟨some 52, .load 1 false (.tmp 51), none, []⟩,
  ⟨some 53, .call I.parlmake_stream_next [.tmp 50, .tmp 52], none, []⟩,
  ⟨some 54, .build [.bool false, .int .i64 0] [(1, 1, .tmp 53)], none, []⟩,
  ⟨some 55, .bslice 2 1 [.bool false, .int .i64 0] [(0, 2, .tmp 54)], none, []⟩,
  ⟨some 56, .append 2 16 (.tmp 49) (.tmp 55), none, []⟩,
  ⟨some 57, .faddr 1 (.tmp 5), none, []⟩,
  ⟨none, .store 1 (.tmp 57) (.tmp 56), none, []⟩]
def F.parlmake_Grammar.r12 : List DOp := [
  ⟨some 58, .bin .add (.tmp 33) (.const (.int .i64 1)), none, []⟩,
  ⟨some 33, .mv (.tmp 58), none, []⟩]
def F.parlmake_Grammar.L1 : ACode := .seq (.region F.parlmake_Grammar.r8) (.seq (.cond (.tmp 34) (.skip) (.exit 2)) (.seq (.block 3 (.seq (.region F.parlmake_Grammar.r9) (.cond (.tmp 37) (.draw F.parlmake_Grammar.r10 [(1, 5)]) (.draw F.parlmake_Grammar.r11 [(1, 5)])))) (.region F.parlmake_Grammar.r12)))
def F.parlmake_Grammar.r13 : List DOp := [
  ⟨some 59, .faddr 3 (.tmp 4), none, []⟩,
  ⟨some 60, .load 1 false (.tmp 59), none, []⟩,
  ⟨some 61, .load 2 true (.tmp 5), none, []⟩,
  ⟨some 62, .call I.parlmake_has [.tmp 60, .tmp 61], none, []⟩,
  ⟨some 63, .un .not (.tmp 62), none, []⟩]
def F.parlmake_Grammar.r14 : List DOp := [
  ⟨some 64, .faddr 3 (.tmp 4), none, []⟩,
  ⟨some 65, .load 1 false (.tmp 64), none, []⟩,
  ⟨some 66, .load 2 true (.tmp 5), none, []⟩,
  ⟨some 67, .bslice 2 1 [.int .i64 0, .slice none 0 0] [(0, 2, .tmp 66)], none, []⟩,
  ⟨some 68, .append 2 32 (.tmp 65) (.tmp 67), none, []⟩,
  ⟨some 69, .faddr 3 (.tmp 4), none, []⟩,
  ⟨none, .store 1 (.tmp 69) (.tmp 68), none, []⟩]
def F.parlmake_Grammar.r15 : List DOp := [
  ⟨some 70, .bin .add (.tmp 24) (.const (.int .i64 1)), none, []⟩,
  ⟨some 24, .mv (.tmp 70), none, []⟩]
def F.parlmake_Grammar.L0 : ACode := .seq (.region F.parlmake_Grammar.r5) (.seq (.cond (.tmp 25) (.skip) (.exit 0)) (.seq (.block 1 (.seq (.region F.parlmake_Grammar.r6) (.seq (.seq (.region F.parlmake_Grammar.r7) (.block 2 (.loop F.parlmake_Grammar.L1))) (.seq (.region F.parlmake_Grammar.r13) (.cond (.tmp 63) (.region F.parlmake_Grammar.r14) (.skip)))))) (.region F.parlmake_Grammar.r15)))
def F.parlmake_Grammar.r16 : List DOp := [
  ⟨some 71, .load 4 true (.tmp 4), none, []⟩,
  ⟨none, .store 4 (.tmp 2) (.tmp 71), none, []⟩]
def F.parlmake_Grammar.c : ACode := .seq (.region F.parlmake_Grammar.r0) (.seq (.region F.parlmake_Grammar.r1) (.seq (.region F.parlmake_Grammar.r2) (.seq (.region F.parlmake_Grammar.r3) (.seq (.seq (.region F.parlmake_Grammar.r4) (.block 0 (.loop F.parlmake_Grammar.L0))) (.seq (.region F.parlmake_Grammar.r16) (.ret))))))
def F.parlmake_Grammar : AFunc := ⟨F.parlmake_Grammar.c, [.cell 2 4 true]⟩
/-! (*parlance/parlmake.stream).next -/
def F.parlmake_stream_next.r0 : List DOp := [
  ⟨some 4, .mv (.const (.int .i64 0)), none, []⟩]
def F.parlmake_stream_next.r1 : List DOp := [
  ⟨some 6, .mv (.tmp 0), none, []⟩,
  ⟨some 7, .nilchk (.tmp 6), none, []⟩,
  ⟨some 8, .faddr 0 (.tmp 7), none, []⟩,
  ⟨some 9, .load 1 false (.tmp 8), none, []⟩,
  ⟨some 10, .len (.tmp 9), none, []⟩,
  ⟨some 11, .bin .eql (.tmp 10) (.const (.int .i64 0)), none, []⟩]
def F.parlmake_stream_next.r2 : List DOp := [
  ⟨some 4, .mv (.const (.int .i64 0)), none, []⟩]
def F.parlmake_stream_next.r3 : List DOp := [
  ⟨some 12, .mv (.tmp 0), none, []⟩,
  ⟨some 13, .nilchk (.tmp 12), none, []⟩,
  ⟨some 14, .faddr 0 (.tmp 13), none, []⟩,
  ⟨some 15, .load 1 false (.tmp 14), none, []⟩,
  ⟨some 16, .idxs 1 (.tmp 15) (.const (.int .i64 0)), none, []⟩,
  ⟨some 17, .load 1 false (.tmp 16), none, []⟩,
  ⟨some 5, .mv (.tmp 17), none, []⟩]
def F.parlmake_stream_next.r4 : List DOp := [
  ⟨some 18, .mv (.tmp 0), none, []⟩,
  ⟨some 19, .mv (.tmp 0), none, []⟩,
  ⟨some 20, .nilchk (.tmp 19), none, []⟩,
  ⟨some 21, .faddr 0 (.tmp 20), none, []⟩,
  ⟨some 22, .load 1 false (.tmp 21), none, []⟩,
  ⟨some 23, .slice 1 (.tmp 22) (some (.const (.int .i64 1))) none, none, []⟩,
  ⟨some 24, .nilchk (.tmp 18), none, []⟩,
  ⟨some 25, .faddr 0 (.tmp 24), none, []⟩,
  ⟨none, .store 1 (.tmp 25) (.tmp 23), none, []⟩]
def F.parlmake_stream_next.r5 : List DOp := [
  ⟨some 26, .mv (.tmp 5), none, []⟩,
  ⟨some 27, .mv (.tmp 1), none, []⟩,
  ⟨some 28, .call I.parlmake_Below [.tmp 26, .tmp 27], none, []⟩,
  ⟨some 4, .mv (.tmp 28), none, []⟩]
def F.parlmake_stream_next.c : ACode := .seq (.region F.parlmake_stream_next.r0) (.seq (.seq (.region F.parlmake_stream_next.r1) (.cond (.tmp 11) (.seq (.region F.parlmake_stream_next.r2) (.ret)) (.skip))) (.seq (.region F.parlmake_stream_next.r3) (.seq (.region F.parlmake_stream_next.r4) (.seq (.region F.parlmake_stream_next.r5) (.ret)))))
def F.parlmake_stream_next : AFunc := ⟨F.parlmake_stream_next.c, [.tmp 4]⟩
/-! parlance/parlmake.has -/
def F.parlmake_has.r0 : List DOp := [
  ⟨some 3, .box (.tmp 1), none, []⟩,
  ⟨some 4, .mv (.const (.bool false)), none, []⟩]
def F.parlmake_has.r1 : List DOp := [
  ⟨some 9, .mv (.tmp 0), none, []⟩,
  ⟨some 10, .len (.tmp 9), none, []⟩,
  ⟨some 11, .mv (.const (.int .i64 0)), none, []⟩]
def F.parlmake_has.r2 : List DOp := [
  ⟨some 12, .bin .lss (.tmp 11) (.tmp 10), none, []⟩]
def F.parlmake_has.r3 : List DOp := [
  ⟨some 13, .idxs 2 (.tmp 9) (.tmp 11), none, []⟩,
  ⟨some 14, .load 2 true (.tmp 13), none, []⟩,
  ⟨some 6, .alloc [.int .i64 0, .slice none 0 0], none, []⟩,
  ⟨none, .store 2 (.tmp 6) (.tmp 14), none, []⟩]
def F.parlmake_has.r4 : List DOp := [
  ⟨some 15, .faddr 0 (.tmp 6), none, []⟩,
  ⟨some 16, .load 1 false (.tmp 15), none, []⟩,
  ⟨some 17, .faddr 0 (.tmp 3), none, []⟩,
  ⟨some 18, .load 1 false (.tmp 17), none, []⟩,
  ⟨some 19, .bin .neq (.tmp 16) (.tmp 18), none, []⟩,
  ⟨some 20, .mv (.tmp 19), none, []⟩,
  ⟨some 21, .faddr 1 (.tmp 6), (some (20, false)), []⟩,
  ⟨some 22, .load 1 false (.tmp 21), (some (20, false)), []⟩,
  ⟨some 23, .len (.tmp 22), (some (20, false)), []⟩,
  ⟨some 24, .faddr 1 (.tmp 3), (some (20, false)), []⟩,
  ⟨some 25, .load 1 false (.tmp 24), (some (20, false)), []⟩,
  ⟨some 26, .len (.tmp 25), (some (20, false)), []⟩,
  ⟨some 27, .bin .neq (.tmp 23) (.tmp 26), (some (20, false)), []⟩,
  ⟨some 28, .pick (.tmp 20) (.const (.bool true)) (.tmp 27), none, []⟩]
def F.parlmake_has.r5 : List DOp := [
  ⟨some 7, .mv (.const (.bool true)), none, []⟩]
def F.parlmake_has.r6 : List DOp := [
  ⟨some 29, .faddr 1 (.tmp 6), none, []⟩,
  ⟨some 30, .load 1 false (.tmp 29), none, []⟩,
  ⟨some 31, .len (.tmp 30), none, []⟩,
  ⟨some 32, .mv (.const (.int .i64 0)), none, []⟩]
def F.parlmake_has.r7 : List DOp := [
  ⟨some 33, .bin .lss (.tmp 32) (.tmp 31), none, []⟩]
def F.parlmake_has.r8 : List DOp := [
  ⟨some 34, .mv (.tmp 32), none, []⟩,
  ⟨some 8, .mv (.tmp 34), none, []⟩]
def F.parlmake_has.r9 : List DOp := [
  ⟨some 35, .mv (.tmp 7), none, []⟩,
  ⟨some 36, .mv (.tmp 35), none, []⟩,
  ⟨some 37, .faddr 1 (.tmp 6), (some (36, true)), []⟩,
  ⟨some 38, .load 1 false (.tmp 37), (some (36, true)), []⟩,
  ⟨some 39, .mv (.tmp 8), (some (36, true)), []⟩,
  ⟨some 40, .idxs 2 (.tmp 38) (.tmp 39), (some (36, true)), []⟩,
  ⟨some 41, .load 2 true (.tmp 40), (some (36, true)), []⟩,
  ⟨some 42, .faddr 1 (.tmp 3), (some (36, true)), []⟩,
  ⟨some 43, .load 1 false (.tmp 42), (some (36, true)), []⟩,
  ⟨some 44, .mv (.tmp 8), (some (36, true)), []⟩,
  ⟨some 45, .idxs 2 (.tmp 43) (.tmp 44), (some (36, true)), []⟩,
  ⟨some 46, .load 2 true (.tmp 45), (some (36, true)), []⟩,
  ⟨some 47, .eq false (.struct [(0, .bool), (1, .int)]) (.tmp 41) (.tmp 46), (some (36, true)), []⟩,
  ⟨some 48, .pick (.tmp 36) (.tmp 47) (.const (.bool false)), none, []⟩,
  ⟨some 7, .mv (.tmp 48), none, []⟩]
def F.parlmake_has.r10 : List DOp := [
  ⟨some 49, .bin .add (.tmp 32) (.const (.int .i64 1)), none, []⟩,
  ⟨some 32, .mv (.tmp 49), none, []⟩]
def F.parlmake_has.L1 : ACode := .seq (.region F.parlmake_has.r7) (.seq (.cond (.tmp 33) (.skip) (.exit 2)) (.seq (.block 3 (.seq (.region F.parlmake_has.r8) (.draw F.parlmake_has.r9 []))) (.region F.parlmake_has.r10)))
def F.parlmake_has.r11 : List DOp := [
  ⟨some 50, .mv (.tmp 7), none, []⟩]
def F.parlmake_has.r12 : List DOp := [
  ⟨some 4, .mv (.const (.bool true)), none, []⟩]
def F.parlmake_has.r13 : List DOp := [
  ⟨some 51, .bin .add (.tmp 11) (.const (.int .i64 1)), none, []⟩,
  ⟨some 11, .mv (.tmp 51), none, []⟩]
def F.parlmake_has.L0 : ACode := .seq (.region F.parlmake_has.r2) (.seq (.cond (.tmp 12) (.skip) (.exit 0)) (.seq (.block 1 (.seq (.region F.parlmake_has.r3) (.seq (.seq (.region F.parlmake_has.r4) (.cond (.tmp 28) (.exit 1) (.skip))) (.seq (.region F.parlmake_has.r5) (.seq (.seq (.region F.parlmake_has.r6) (.block 2 (.loop F.parlmake_has.L1))) (.seq (.region F.parlmake_has.r11) (.cond (.tmp 50) (.seq (.region F.parlmake_has.r12) (.ret)) (.skip)))))))) (.region F.parlmake_has.r13)))
def F.parlmake_has.r14 : List DOp := [
  ⟨some 4, .mv (.const (.bool false)), none, []⟩]
def F.parlmake_has.c : ACode := .seq (.region F.parlmake_has.r0) (.seq (.seq (.region F.parlmake_has.r1) (.block 0 (.loop F.parlmake_has.L0))) (.seq (.region F.parlmake_has.r14) (.ret)))
def F.parlmake_has : AFunc := ⟨F.parlmake_has.c, [.tmp 4]⟩
/-! parlance/parlmake.Below -/
def F.parlmake_Below.r0 : List DOp := [
  ⟨some 4, .mv (.const (.int .i64 0)), none, []⟩]
def F.parlmake_Below.r1 : List DOp := [
  ⟨some 5, .mv (.tmp 0), none, []⟩,
  ⟨some 6, .mv (.tmp 1), none, []⟩,
  ⟨some 7, .bin .rem (.tmp 5) (.tmp 6), none, []⟩,
  ⟨some 0, .mv (.tmp 7), none, []⟩]
def F.parlmake_Below.r2 : List DOp := [
  ⟨some 8, .mv (.tmp 0), none, []⟩,
  ⟨some 9, .bin .lss (.tmp 8) (.const (.int .i64 0)), none, []⟩]
def F.parlmake_Below.r3 : List DOp := [
  ⟨some 10, .mv (.tmp 0), none, []⟩,
  ⟨some 11, .mv (.tmp 1), none, []⟩,
  ⟨some 12, .bin .add (.tmp 10) (.tmp 11), none, []⟩,
  ⟨some 0, .mv (.tmp 12), none, []⟩]
def F.parlmake_Below.r4 : List DOp := [
  ⟨some 13, .mv (.tmp 0), none, []⟩,
  ⟨some 4, .mv (.tmp 13), none, []⟩]
def F.parlmake_Below.c : ACode := .seq (.region F.parlmake_Below.r0) (.seq (.region F.parlmake_Below.r1) (.seq (.seq (.region F.parlmake_Below.r2) (.cond (.tmp 9) (.region F.parlmake_Below.r3) (.skip))) (.seq (.region F.parlmake_Below.r4) (.ret))))
def F.parlmake_Below : AFunc := ⟨F.parlmake_Below.c, [.tmp 4]⟩
end Go.Proofs.Ythgdobdhdfjhfaa
