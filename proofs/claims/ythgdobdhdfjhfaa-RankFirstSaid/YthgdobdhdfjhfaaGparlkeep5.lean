/- The abstract code of package parlkeep5, written by wip/tools/gen.py from the translation. -/
import Derived.Test.YthgdobdhdfjhfaaI
namespace Go.Proofs.Ythgdobdhdfjhfaa
open Go Go.Ab
/-! parlance/parlkeep5.RankFirst -/
def F.parlkeep5_RankFirst.r0 : List DOp := [
  ⟨some 6, .mv (.const (.bool false)), none, []⟩]
def F.parlkeep5_RankFirst.r1 : List DOp := [
  ⟨some 19, .mv (.tmp 0), none, []⟩,
  ⟨some 20, .call I.parlmake_Grammar [.tmp 19], none, []⟩,
  ⟨some 7, .alloc [.int .i64 0, .int .i64 0, .int .i64 0, .slice none 0 0], none, []⟩,
  ⟨none, .store 4 (.tmp 7) (.tmp 20), none, []⟩]
def F.parlkeep5_RankFirst.r2 : List DOp := [
  ⟨some 21, .mv (.tmp 1), none, []⟩,
  ⟨some 22, .call I.parlkeep5_below [.tmp 21, .const (.int .i64 8)], none, []⟩,
  ⟨some 1, .mv (.tmp 22), none, []⟩]
def F.parlkeep5_RankFirst.r3 : List DOp := [
  ⟨some 24, .call I.parlkeep5_plain [], none, []⟩,
  ⟨some 25, .call I.rank_Count [.tmp 24, .const (.int .i64 3)], none, []⟩,
  ⟨some 23, .mv (.tmp 25), none, []⟩,
  ⟨some 26, .extract (.tmp 23) 0, none, []⟩,
  ⟨some 27, .extract (.tmp 23) 1, none, []⟩,
  ⟨some 8, .mv (.tmp 26), none, []⟩,
  ⟨some 9, .mv (.tmp 27), none, []⟩]
def F.parlkeep5_RankFirst.r4 : List DOp := [
  ⟨some 28, .mv (.tmp 8), none, []⟩,
  ⟨some 29, .bin .neq (.tmp 28) (.const (.int .i64 1)), none, []⟩,
  ⟨some 30, .mv (.tmp 29), none, []⟩,
  ⟨some 31, .mv (.tmp 9), (some (30, false)), []⟩,
  ⟨some 32, .bin .neq (.tmp 31) (.const (.int .i64 0)), (some (30, false)), []⟩,
  ⟨some 33, .pick (.tmp 30) (.const (.bool true)) (.tmp 32), none, []⟩]
def F.parlkeep5_RankFirst.r5 : List DOp := [
  ⟨some 6, .mv (.const (.bool false)), none, []⟩]
def F.parlkeep5_RankFirst.r6 : List DOp := [
  ⟨some 35, .load 4 true (.tmp 7), none, []⟩,
  ⟨some 36, .mv (.tmp 1), none, []⟩,
  ⟨some 37, .call I.rank_Count [.tmp 35, .tmp 36], none, []⟩,
  ⟨some 34, .mv (.tmp 37), none, []⟩,
  ⟨some 38, .extract (.tmp 34) 0, none, []⟩,
  ⟨some 39, .extract (.tmp 34) 1, none, []⟩,
  ⟨some 10, .mv (.tmp 38), none, []⟩,
  ⟨some 11, .mv (.tmp 39), none, []⟩]
def F.parlkeep5_RankFirst.r7 : List DOp := [
  ⟨some 40, .mv (.tmp 11), none, []⟩,
  ⟨some 41, .bin .neq (.tmp 40) (.const (.int .i64 0)), none, []⟩,
  ⟨some 42, .mv (.tmp 41), none, []⟩,
  ⟨some 43, .mv (.tmp 10), (some (42, false)), []⟩,
  ⟨some 44, .bin .lss (.tmp 43) (.const (.int .i64 2)), (some (42, false)), []⟩,
  ⟨some 45, .pick (.tmp 42) (.const (.bool true)) (.tmp 44), none, []⟩]
def F.parlkeep5_RankFirst.r8 : List DOp := [
  ⟨some 6, .mv (.const (.bool true)), none, []⟩]
def F.parlkeep5_RankFirst.r9 : List DOp := [
  ⟨some 46, .mv (.tmp 2), none, []⟩,
  ⟨some 47, .mv (.tmp 10), none, []⟩,
  ⟨some 48, .bin .sub (.tmp 47) (.const (.int .i64 1)), none, []⟩,
  ⟨some 49, .call I.parlkeep5_below [.tmp 46, .tmp 48], none, []⟩,
  ⟨some 2, .mv (.tmp 49), none, []⟩]
def F.parlkeep5_RankFirst.r10 : List DOp := [
  ⟨some 51, .load 4 true (.tmp 7), none, []⟩,
  ⟨some 52, .mv (.tmp 1), none, []⟩,
  ⟨some 53, .mv (.tmp 2), none, []⟩,
  ⟨some 54, .call I.rank_Tree [.tmp 51, .tmp 52, .tmp 53], none, []⟩,
  ⟨some 50, .mv (.tmp 54), none, []⟩,
  ⟨some 55, .extract (.tmp 50) 0, none, []⟩,
  ⟨some 56, .extract (.tmp 50) 1, none, []⟩,
  ⟨some 12, .alloc [.int .i64 0, .int .i64 0, .slice none 0 0], none, []⟩,
  ⟨none, .store 3 (.tmp 12) (.tmp 55), none, []⟩,
  ⟨some 11, .mv (.tmp 56), none, []⟩]
def F.parlkeep5_RankFirst.r11 : List DOp := [
  ⟨some 58, .load 4 true (.tmp 7), none, []⟩,
  ⟨some 59, .mv (.tmp 1), none, []⟩,
  ⟨some 60, .mv (.tmp 2), none, []⟩,
  ⟨some 61, .bin .add (.tmp 60) (.const (.int .i64 1)), none, []⟩,
  ⟨some 62, .call I.rank_Tree [.tmp 58, .tmp 59, .tmp 61], none, []⟩,
  ⟨some 57, .mv (.tmp 62), none, []⟩,
  ⟨some 63, .extract (.tmp 57) 0, none, []⟩,
  ⟨some 64, .extract (.tmp 57) 1, none, []⟩,
  ⟨some 13, .alloc [.int .i64 0, .int .i64 0, .slice none 0 0], none, []⟩,
  ⟨none, .store 3 (.tmp 13) (.tmp 63), none, []⟩,
  ⟨some 14, .mv (.tmp 64), none, []⟩]
def F.parlkeep5_RankFirst.r12 : List DOp := [
  ⟨some 66, .load 4 true (.tmp 7), none, []⟩,
  ⟨some 67, .mv (.tmp 1), none, []⟩,
  ⟨some 68, .mv (.tmp 10), none, []⟩,
  ⟨some 69, .call I.rank_Tree [.tmp 66, .tmp 67, .tmp 68], none, []⟩,
  ⟨some 65, .mv (.tmp 69), none, []⟩,
  ⟨some 70, .extract (.tmp 65) 0, none, []⟩,
  ⟨some 71, .extract (.tmp 65) 1, none, []⟩,
  ⟨some 15, .alloc [.int .i64 0, .int .i64 0, .slice none 0 0], none, []⟩,
  ⟨none, .store 3 (.tmp 15) (.tmp 70), none, []⟩,
  ⟨some 16, .mv (.tmp 71), none, []⟩]
def F.parlkeep5_RankFirst.r13 : List DOp := [
  ⟨some 73, .load 4 true (.tmp 7), none, []⟩,
  ⟨some 74, .mv (.tmp 1), none, []⟩,
  ⟨some 75, .call I.rank_Tree [.tmp 73, .tmp 74, .const (.int .i64 (-1))], none, []⟩,
  ⟨some 72, .mv (.tmp 75), none, []⟩,
  ⟨some 76, .extract (.tmp 72) 0, none, []⟩,
  ⟨some 77, .extract (.tmp 72) 1, none, []⟩,
  ⟨some 17, .alloc [.int .i64 0, .int .i64 0, .slice none 0 0], none, []⟩,
  ⟨none, .store 3 (.tmp 17) (.tmp 76), none, []⟩,
  ⟨some 18, .mv (.tmp 77), none, []⟩]
def F.parlkeep5_RankFirst.r14 : List DOp := [
  ⟨some 78, .mv (.tmp 11), none, []⟩,
  ⟨some 79, .bin .eql (.tmp 78) (.const (.int .i64 0)), none, []⟩,
  ⟨some 80, .mv (.tmp 79), none, []⟩,
  ⟨some 81, .mv (.tmp 14), (some (80, true)), []⟩,
  ⟨some 82, .bin .eql (.tmp 81) (.const (.int .i64 0)), (some (80, true)), []⟩,
  ⟨some 83, .pick (.tmp 80) (.tmp 82) (.const (.bool false)), none, []⟩,
  ⟨some 84, .mv (.tmp 83), none, []⟩,
  ⟨some 85, .mv (.tmp 16), (some (84, true)), []⟩,
  ⟨some 86, .bin .eql (.tmp 85) (.const (.int .i64 5)), (some (84, true)), []⟩,
  ⟨some 87, .pick (.tmp 84) (.tmp 86) (.const (.bool false)), none, []⟩,
  ⟨some 88, .mv (.tmp 87), none, []⟩,
  ⟨some 89, .mv (.tmp 18), (some (88, true)), []⟩,
  ⟨some 90, .bin .eql (.tmp 89) (.const (.int .i64 5)), (some (88, true)), []⟩,
  ⟨some 91, .pick (.tmp 88) (.tmp 90) (.const (.bool false)), none, []⟩,
  ⟨some 92, .mv (.tmp 91), none, []⟩,
  ⟨some 93, .faddr 0 (.tmp 12), (some (92, true)), []⟩,
  ⟨some 94, .load 1 false (.tmp 93), (some (92, true)), []⟩,
  ⟨some 95, .faddr 0 (.tmp 13), (some (92, true)), []⟩,
  ⟨some 96, .load 1 false (.tmp 95), (some (92, true)), []⟩,
  ⟨some 97, .bin .leq (.tmp 94) (.tmp 96), (some (92, true)), []⟩,
  ⟨some 98, .pick (.tmp 92) (.tmp 97) (.const (.bool false)), none, []⟩,
  ⟨some 6, .mv (.tmp 98), none, []⟩]
def F.parlkeep5_RankFirst.c : ACode := .seq (.region F.parlkeep5_RankFirst.r0) (.seq (.region F.parlkeep5_RankFirst.r1) (.seq (.region F.parlkeep5_RankFirst.r2) (.seq (.seq (.region F.parlkeep5_RankFirst.r3) (.seq (.region F.parlkeep5_RankFirst.r4) (.cond (.tmp 33) (.seq (.region F.parlkeep5_RankFirst.r5) (.ret)) (.skip)))) (.seq (.region F.parlkeep5_RankFirst.r6) (.seq (.seq (.region F.parlkeep5_RankFirst.r7) (.cond (.tmp 45) (.seq (.region F.parlkeep5_RankFirst.r8) (.ret)) (.skip))) (.seq (.region F.parlkeep5_RankFirst.r9) (.seq (.region F.parlkeep5_RankFirst.r10) (.seq (.region F.parlkeep5_RankFirst.r11) (.seq (.region F.parlkeep5_RankFirst.r12) (.seq (.region F.parlkeep5_RankFirst.r13) (.seq (.region F.parlkeep5_RankFirst.r14) (.ret))))))))))))
def F.parlkeep5_RankFirst : AFunc := ⟨F.parlkeep5_RankFirst.c, [.tmp 6]⟩
/-! parlance/parlkeep5.plain -/
def F.parlkeep5_plain.r0 : List DOp := [
  ⟨some 0, .alloc [.int .i64 0, .int .i64 0, .int .i64 0, .slice none 0 0], none, []⟩]
def F.parlkeep5_plain.r1 : List DOp := [
  ⟨some 1, .build [.bool false, .int .i64 0] [(0, 1, .const (.bool true))], none, []⟩,
  ⟨some 2, .bslice 2 1 [.bool false, .int .i64 0] [(0, 2, .tmp 1)], none, []⟩,
  ⟨some 3, .build [.int .i64 0, .slice none 0 0] [(1, 1, .tmp 2)], none, []⟩,
  ⟨some 4, .build [.bool false, .int .i64 0] [(0, 1, .const (.bool true)), (1, 1, .const (.int .i64 1))], none, []⟩,
  ⟨some 5, .build [.bool false, .int .i64 0] [], none, []⟩,
  ⟨some 6, .bslice 2 2 [.bool false, .int .i64 0, .bool false, .int .i64 0] [(0, 2, .tmp 4), (2, 2, .tmp 5)], none, []⟩,
  ⟨some 7, .build [.int .i64 0, .slice none 0 0] [(1, 1, .tmp 6)], none, []⟩,
  ⟨some 8, .bslice 2 2 [.int .i64 0, .slice none 0 0, .int .i64 0, .slice none 0 0] [(0, 2, .tmp 3), (2, 2, .tmp 7)], none, []⟩,
  ⟨some 9, .build [.int .i64 0, .int .i64 0, .int .i64 0, .slice none 0 0] [(0, 1, .const (.int .i64 2)), (1, 1, .const (.int .i64 1)), (3, 1, .tmp 8)], none, []⟩,
  ⟨none, .store 4 (.tmp 0) (.tmp 9), none, []⟩]
def F.parlkeep5_plain.c : ACode := .seq (.region F.parlkeep5_plain.r0) (.seq (.region F.parlkeep5_plain.r1) (.ret))
def F.parlkeep5_plain : AFunc := ⟨F.parlkeep5_plain.c, [.cell 0 4 true]⟩
/-! parlance/parlkeep5.below -/
def F.parlkeep5_below.r0 : List DOp := [
  ⟨some 4, .mv (.const (.int .i64 0)), none, []⟩]
def F.parlkeep5_below.r1 : List DOp := [
  ⟨some 5, .mv (.tmp 0), none, []⟩,
  ⟨some 6, .mv (.tmp 1), none, []⟩,
  ⟨some 7, .call I.parlmake_Below [.tmp 5, .tmp 6], none, []⟩,
  ⟨some 4, .mv (.tmp 7), none, []⟩]
def F.parlkeep5_below.c : ACode := .seq (.region F.parlkeep5_below.r0) (.seq (.region F.parlkeep5_below.r1) (.ret))
def F.parlkeep5_below : AFunc := ⟨F.parlkeep5_below.c, [.tmp 4]⟩
end Go.Proofs.Ythgdobdhdfjhfaa
