/- The abstract code of package parlkeep5, written by wip/tools/gen.py from the translation. -/
import Derived.Test.YthgdobdhdfjhfaaI
namespace Go.Proofs.Ythgdobdhdfjhfaa
open Go Go.Ab
/-! parlance/parlkeep5.CensusLeast -/
def F.parlkeep5_CensusLeast.r0 : List DOp := [
  ⟨some 2, .mv (.const (.bool false)), none, []⟩]
def F.parlkeep5_CensusLeast.r1 : List DOp := [
  ⟨some 11, .mv (.tmp 0), none, []⟩,
  ⟨some 12, .call I.parlmake_Grammar [.tmp 11], none, []⟩,
  ⟨some 3, .alloc [.int .i64 0, .int .i64 0, .int .i64 0, .slice none 0 0], none, []⟩,
  ⟨none, .store 4 (.tmp 3) (.tmp 12), none, []⟩]
def F.parlkeep5_CensusLeast.r2 : List DOp := [
  ⟨some 14, .load 4 true (.tmp 3), none, []⟩,
  ⟨some 15, .call I.census_Least [.tmp 14], none, []⟩,
  ⟨some 13, .mv (.tmp 15), none, []⟩,
  ⟨some 16, .extract (.tmp 13) 0, none, []⟩,
  ⟨some 17, .extract (.tmp 13) 1, none, []⟩,
  ⟨some 4, .mv (.tmp 16), none, []⟩,
  ⟨some 5, .mv (.tmp 17), none, []⟩]
def F.parlkeep5_CensusLeast.r3 : List DOp := [
  ⟨some 19, .load 4 true (.tmp 3), none, []⟩,
  ⟨some 20, .call I.census_Trees [.tmp 19, .const (.int .i64 24)], none, []⟩,
  ⟨some 18, .mv (.tmp 20), none, []⟩,
  ⟨some 21, .extract (.tmp 18) 0, none, []⟩,
  ⟨some 22, .extract (.tmp 18) 1, none, []⟩,
  ⟨some 6, .mv (.tmp 21), none, []⟩,
  ⟨some 7, .mv (.tmp 22), none, []⟩]
def F.parlkeep5_CensusLeast.r4 : List DOp := [
  ⟨some 23, .call I.parlkeep5_counts [], none, []⟩,
  ⟨some 24, .un .not (.tmp 23), none, []⟩,
  ⟨some 25, .mv (.tmp 24), none, []⟩,
  ⟨some 26, .mv (.tmp 5), (some (25, false)), []⟩,
  ⟨some 27, .bin .neq (.tmp 26) (.const (.int .i64 0)), (some (25, false)), []⟩,
  ⟨some 28, .pick (.tmp 25) (.const (.bool true)) (.tmp 27), none, []⟩,
  ⟨some 29, .mv (.tmp 28), none, []⟩,
  ⟨some 30, .mv (.tmp 7), (some (29, false)), []⟩,
  ⟨some 31, .bin .neq (.tmp 30) (.const (.int .i64 0)), (some (29, false)), []⟩,
  ⟨some 32, .pick (.tmp 29) (.const (.bool true)) (.tmp 31), none, []⟩,
  ⟨some 33, .mv (.tmp 32), none, []⟩,
  ⟨some 34, .mv (.tmp 4), (some (33, false)), []⟩,
  ⟨some 35, .len (.tmp 34), (some (33, false)), []⟩,
  ⟨some 36, .faddr 1 (.tmp 3), (some (33, false)), []⟩,
  ⟨some 37, .load 1 false (.tmp 36), (some (33, false)), []⟩,
  ⟨some 38, .bin .neq (.tmp 35) (.tmp 37), (some (33, false)), []⟩,
  ⟨some 39, .pick (.tmp 33) (.const (.bool true)) (.tmp 38), none, []⟩,
  ⟨some 40, .mv (.tmp 39), none, []⟩,
  ⟨some 41, .mv (.tmp 6), (some (40, false)), []⟩,
  ⟨some 42, .len (.tmp 41), (some (40, false)), []⟩,
  ⟨some 43, .faddr 1 (.tmp 3), (some (40, false)), []⟩,
  ⟨some 44, .load 1 false (.tmp 43), (some (40, false)), []⟩,
  ⟨some 45, .bin .neq (.tmp 42) (.tmp 44), (some (40, false)), []⟩,
  ⟨some 46, .pick (.tmp 40) (.const (.bool true)) (.tmp 45), none, []⟩]
def F.parlkeep5_CensusLeast.r5 : List DOp := [
  ⟨some 2, .mv (.const (.bool false)), none, []⟩]
def F.parlkeep5_CensusLeast.r6 : List DOp := [
  ⟨some 47, .mv (.tmp 4), none, []⟩,
  ⟨some 48, .len (.tmp 47), none, []⟩,
  ⟨some 49, .mv (.const (.int .i64 0)), none, []⟩]
def F.parlkeep5_CensusLeast.r7 : List DOp := [
  ⟨some 50, .bin .lss (.tmp 49) (.tmp 48), none, []⟩]
def F.parlkeep5_CensusLeast.r8 : List DOp := [
  ⟨some 51, .mv (.tmp 49), none, []⟩,
  ⟨some 52, .idxs 1 (.tmp 47) (.tmp 49), none, []⟩,
  ⟨some 53, .load 1 false (.tmp 52), none, []⟩,
  ⟨some 8, .mv (.tmp 51), none, []⟩,
  ⟨some 9, .mv (.tmp 53), none, []⟩]
def F.parlkeep5_CensusLeast.r9 : List DOp := [
  ⟨some 54, .mv (.tmp 6), none, []⟩,
  ⟨some 55, .mv (.tmp 8), none, []⟩,
  ⟨some 56, .idxs 1 (.tmp 54) (.tmp 55), none, []⟩,
  ⟨some 57, .load 1 false (.tmp 56), none, []⟩,
  ⟨some 58, .call I.slices_IndexFunc_int_int [.tmp 57, .func I.parlkeep5_CensusLeast_1], none, []⟩,
  ⟨some 10, .mv (.tmp 58), none, []⟩]
def F.parlkeep5_CensusLeast.r10 : List DOp := [
  ⟨some 59, .mv (.tmp 9), none, []⟩,
  ⟨some 60, .bin .leq (.tmp 59) (.const (.int .i64 24)), none, []⟩,
  ⟨some 61, .mv (.tmp 60), none, []⟩,
  ⟨some 62, .mv (.tmp 10), (some (61, true)), []⟩,
  ⟨some 63, .mv (.tmp 9), (some (61, true)), []⟩,
  ⟨some 64, .bin .neq (.tmp 62) (.tmp 63), (some (61, true)), []⟩,
  ⟨some 65, .pick (.tmp 61) (.tmp 64) (.const (.bool false)), none, []⟩,
  ⟨some 66, .mv (.tmp 65), none, []⟩,
  ⟨some 67, .mv (.tmp 9), (some (66, false)), []⟩,
  ⟨some 68, .bin .gtr (.tmp 67) (.const (.int .i64 24)), (some (66, false)), []⟩,
  ⟨some 69, .mv (.tmp 68), (some (66, false)), []⟩,
  ⟨some 70, .mv (.tmp 10), (some (69, true)), []⟩,
  ⟨some 71, .bin .geq (.tmp 70) (.const (.int .i64 0)), (some (69, true)), []⟩,
  ⟨some 72, .pick (.tmp 69) (.tmp 71) (.const (.bool false)), (some (66, false)), []⟩,
  ⟨some 73, .pick (.tmp 66) (.const (.bool true)) (.tmp 72), none, []⟩]
def F.parlkeep5_CensusLeast.r11 : List DOp := [
  ⟨some 2, .mv (.const (.bool false)), none, []⟩]
def F.parlkeep5_CensusLeast.r12 : List DOp := [
  ⟨some 74, .bin .add (.tmp 49) (.const (.int .i64 1)), none, []⟩,
  ⟨some 49, .mv (.tmp 74), none, []⟩]
def F.parlkeep5_CensusLeast.L0 : ACode := .seq (.region F.parlkeep5_CensusLeast.r7) (.seq (.cond (.tmp 50) (.skip) (.exit 0)) (.seq (.block 1 (.seq (.region F.parlkeep5_CensusLeast.r8) (.seq (.region F.parlkeep5_CensusLeast.r9) (.seq (.region F.parlkeep5_CensusLeast.r10) (.cond (.tmp 73) (.seq (.region F.parlkeep5_CensusLeast.r11) (.ret)) (.skip)))))) (.region F.parlkeep5_CensusLeast.r12)))
def F.parlkeep5_CensusLeast.r13 : List DOp := [
  ⟨some 2, .mv (.const (.bool true)), none, []⟩]
def F.parlkeep5_CensusLeast.c : ACode := .seq (.region F.parlkeep5_CensusLeast.r0) (.seq (.region F.parlkeep5_CensusLeast.r1) (.seq (.region F.parlkeep5_CensusLeast.r2) (.seq (.region F.parlkeep5_CensusLeast.r3) (.seq (.seq (.region F.parlkeep5_CensusLeast.r4) (.cond (.tmp 46) (.seq (.region F.parlkeep5_CensusLeast.r5) (.ret)) (.skip))) (.seq (.seq (.region F.parlkeep5_CensusLeast.r6) (.block 0 (.loop F.parlkeep5_CensusLeast.L0))) (.seq (.region F.parlkeep5_CensusLeast.r13) (.ret)))))))
def F.parlkeep5_CensusLeast : AFunc := ⟨F.parlkeep5_CensusLeast.c, [.tmp 2]⟩
/-! parlance/parlkeep5.plain -/
def F.parlkeep5_plain.r0 : List DOp := [
  ⟨some 0, .alloc [.int .i64 0, .int .i64 0, .int .i64 0, .slice none 0 0], none, []⟩]
def F.parlkeep5_plain.r1 : List DOp := [
  ⟨some 1, .build [.bool false, .int .i64 0] [(0, 1, .const (.bool true))], none, []⟩,
  ⟨some 2, .bslice 2 1 [.bool false, .int .i64 0] [(0, 2, .tmp 1)], none, []⟩,
  ⟨some 3, .build [.int .i64 0, .slice none 0 0] [(1, 1, .tmp 2)], none, []⟩,
  ⟨some 4, .build [.bool false, .int .i64 0] [(0, 1, .const (.bool true)), (1, 1, .const (.int .i64 1))], none, []⟩,
  ⟨some 5, .build [.bool false, .int .i64 0] [], none, []⟩,
  ⟨some 6, .bslice 2 2 [.bool false, .int .i64 0, .bool false, .int .i64 0] [(0, 2, .tmp 4), (2, 2, .tmp 5)], none, []⟩,
  ⟨some 7, .build [.int .i64 0, .slice none 0 0] [(1, 1, .tmp 6)], none, []⟩,
  ⟨some 8, .bslice 2 2 [.int .i64 0, .slice none 0 0, .int .i64 0, .slice none 0 0] [(0, 2, .tmp 3), (2, 2, .tmp 7)], none, []⟩,
  ⟨some 9, .build [.int .i64 0, .int .i64 0, .int .i64 0, .slice none 0 0] [(0, 1, .const (.int .i64 2)), (1, 1, .const (.int .i64 1)), (3, 1, .tmp 8)], none, []⟩,
  ⟨none, .store 4 (.tmp 0) (.tmp 9), none, []⟩]
def F.parlkeep5_plain.c : ACode := .seq (.region F.parlkeep5_plain.r0) (.seq (.region F.parlkeep5_plain.r1) (.ret))
def F.parlkeep5_plain : AFunc := ⟨F.parlkeep5_plain.c, [.cell 0 4 true]⟩
/-! parlance/parlkeep5.counts -/
def F.parlkeep5_counts.r0 : List DOp := [
  ⟨some 0, .mv (.const (.bool false)), none, []⟩]
def F.parlkeep5_counts.r1 : List DOp := [
  ⟨some 4, .call I.parlkeep5_plain [], none, []⟩,
  ⟨some 5, .call I.census_Total [.tmp 4, .const (.int .i64 2)], none, []⟩,
  ⟨some 3, .mv (.tmp 5), none, []⟩,
  ⟨some 6, .extract (.tmp 3) 0, none, []⟩,
  ⟨some 7, .extract (.tmp 3) 1, none, []⟩,
  ⟨some 1, .mv (.tmp 6), none, []⟩,
  ⟨some 2, .mv (.tmp 7), none, []⟩]
def F.parlkeep5_counts.r2 : List DOp := [
  ⟨some 8, .mv (.tmp 1), none, []⟩,
  ⟨some 9, .bin .eql (.tmp 8) (.const (.int .i64 2)), none, []⟩,
  ⟨some 10, .mv (.tmp 9), none, []⟩,
  ⟨some 11, .mv (.tmp 2), (some (10, true)), []⟩,
  ⟨some 12, .bin .eql (.tmp 11) (.const (.int .i64 0)), (some (10, true)), []⟩,
  ⟨some 13, .pick (.tmp 10) (.tmp 12) (.const (.bool false)), none, []⟩,
  ⟨some 0, .mv (.tmp 13), none, []⟩]
def F.parlkeep5_counts.c : ACode := .seq (.region F.parlkeep5_counts.r0) (.seq (.region F.parlkeep5_counts.r1) (.seq (.region F.parlkeep5_counts.r2) (.ret)))
def F.parlkeep5_counts : AFunc := ⟨F.parlkeep5_counts.c, [.tmp 0]⟩
/-! parlance/parlkeep5.CensusLeast$1 -/
def F.parlkeep5_CensusLeast_1.r0 : List DOp := [
  ⟨some 2, .mv (.const (.bool false)), none, []⟩]
def F.parlkeep5_CensusLeast_1.r1 : List DOp := [
  ⟨some 3, .mv (.tmp 0), none, []⟩,
  ⟨some 4, .bin .neq (.tmp 3) (.const (.int .i64 0)), none, []⟩,
  ⟨some 2, .mv (.tmp 4), none, []⟩]
def F.parlkeep5_CensusLeast_1.c : ACode := .seq (.region F.parlkeep5_CensusLeast_1.r0) (.seq (.region F.parlkeep5_CensusLeast_1.r1) (.ret))
def F.parlkeep5_CensusLeast_1 : AFunc := ⟨F.parlkeep5_CensusLeast_1.c, [.tmp 2]⟩
end Go.Proofs.Ythgdobdhdfjhfaa
