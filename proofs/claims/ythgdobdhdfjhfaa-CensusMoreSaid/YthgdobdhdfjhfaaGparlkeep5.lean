/- The abstract code of package parlkeep5, written by wip/tools/gen.py from the translation. -/
import Derived.Test.YthgdobdhdfjhfaaI
namespace Go.Proofs.Ythgdobdhdfjhfaa
open Go Go.Ab
/-! parlance/parlkeep5.CensusMore -/
def F.parlkeep5_CensusMore.r0 : List DOp := [
  ⟨some 6, .mv (.const (.bool false)), none, []⟩]
def F.parlkeep5_CensusMore.r1 : List DOp := [
  ⟨some 17, .mv (.tmp 0), none, []⟩,
  ⟨some 18, .call I.parlmake_Grammar [.tmp 17], none, []⟩,
  ⟨some 7, .alloc [.int .i64 0, .int .i64 0, .int .i64 0, .slice none 0 0], none, []⟩,
  ⟨none, .store 4 (.tmp 7) (.tmp 18), none, []⟩]
def F.parlkeep5_CensusMore.r2 : List DOp := [
  ⟨some 19, .mv (.tmp 2), none, []⟩,
  ⟨some 20, .call I.parlkeep5_below [.tmp 19, .const (.int .i64 8)], none, []⟩,
  ⟨some 2, .mv (.tmp 20), none, []⟩]
def F.parlkeep5_CensusMore.r3 : List DOp := [
  ⟨some 21, .load 4 true (.tmp 7), none, []⟩,
  ⟨some 8, .alloc [.int .i64 0, .int .i64 0, .int .i64 0, .slice none 0 0], none, []⟩,
  ⟨none, .store 4 (.tmp 8) (.tmp 21), none, []⟩]
def F.parlkeep5_CensusMore.r4 : List DOp := [
  ⟨some 22, .mv (.tmp 1), none, []⟩,
  ⟨some 23, .faddr 3 (.tmp 7), none, []⟩,
  ⟨some 24, .load 1 false (.tmp 23), none, []⟩,
  ⟨some 25, .len (.tmp 24), none, []⟩,
  ⟨some 26, .call I.parlkeep5_below [.tmp 22, .tmp 25], none, []⟩,
  ⟨some 1, .mv (.tmp 26), none, []⟩]
def F.parlkeep5_CensusMore.r5 : List DOp := [
  ⟨some 27, .faddr 3 (.tmp 7), none, []⟩,
  ⟨some 28, .load 1 false (.tmp 27), none, []⟩,
  ⟨some 29, .mv (.tmp 1), none, []⟩,
  ⟨some 30, .slice 2 (.tmp 28) none (some (.tmp 29)), none, []⟩,
  ⟨some 31, .faddr 3 (.tmp 7), none, []⟩,
  ⟨some 32, .load 1 false (.tmp 31), none, []⟩,
  ⟨some 33, .mv (.tmp 1), none, []⟩,
  ⟨some 34, .bin .add (.tmp 33) (.const (.int .i64 1)), none, []⟩,
  ⟨some 35, .slice 2 (.tmp 32) (some (.tmp 34)) none, none, []⟩,
  ⟨some 36, .bslice 1 2 [.slice none 0 0, .slice none 0 0] [(0, 1, .tmp 30), (1, 1, .tmp 35)], none, []⟩,
  ⟨some 37, .call I.slices_Concat_api_Rule_api_Rule [.tmp 36], none, []⟩,
  ⟨some 38, .faddr 3 (.tmp 8), none, []⟩,
  ⟨none, .store 1 (.tmp 38) (.tmp 37), none, []⟩]
def F.parlkeep5_CensusMore.r6 : List DOp := [
  ⟨some 40, .load 4 true (.tmp 7), none, []⟩,
  ⟨some 41, .mv (.tmp 2), none, []⟩,
  ⟨some 42, .call I.census_Trees [.tmp 40, .tmp 41], none, []⟩,
  ⟨some 39, .mv (.tmp 42), none, []⟩,
  ⟨some 43, .extract (.tmp 39) 0, none, []⟩,
  ⟨some 44, .extract (.tmp 39) 1, none, []⟩,
  ⟨some 9, .mv (.tmp 43), none, []⟩,
  ⟨some 10, .mv (.tmp 44), none, []⟩]
def F.parlkeep5_CensusMore.r7 : List DOp := [
  ⟨some 46, .load 4 true (.tmp 8), none, []⟩,
  ⟨some 47, .mv (.tmp 2), none, []⟩,
  ⟨some 48, .call I.census_Trees [.tmp 46, .tmp 47], none, []⟩,
  ⟨some 45, .mv (.tmp 48), none, []⟩,
  ⟨some 49, .extract (.tmp 45) 0, none, []⟩,
  ⟨some 50, .extract (.tmp 45) 1, none, []⟩,
  ⟨some 11, .mv (.tmp 49), none, []⟩,
  ⟨some 12, .mv (.tmp 50), none, []⟩]
def F.parlkeep5_CensusMore.r8 : List DOp := [
  ⟨some 51, .call I.parlkeep5_counts [], none, []⟩,
  ⟨some 52, .un .not (.tmp 51), none, []⟩,
  ⟨some 53, .mv (.tmp 52), none, []⟩,
  ⟨some 54, .mv (.tmp 10), (some (53, false)), []⟩,
  ⟨some 55, .bin .neq (.tmp 54) (.const (.int .i64 0)), (some (53, false)), []⟩,
  ⟨some 56, .pick (.tmp 53) (.const (.bool true)) (.tmp 55), none, []⟩,
  ⟨some 57, .mv (.tmp 56), none, []⟩,
  ⟨some 58, .mv (.tmp 12), (some (57, false)), []⟩,
  ⟨some 59, .bin .neq (.tmp 58) (.const (.int .i64 0)), (some (57, false)), []⟩,
  ⟨some 60, .pick (.tmp 57) (.const (.bool true)) (.tmp 59), none, []⟩,
  ⟨some 61, .mv (.tmp 60), none, []⟩,
  ⟨some 62, .mv (.tmp 9), (some (61, false)), []⟩,
  ⟨some 63, .len (.tmp 62), (some (61, false)), []⟩,
  ⟨some 64, .mv (.tmp 11), (some (61, false)), []⟩,
  ⟨some 65, .len (.tmp 64), (some (61, false)), []⟩,
  ⟨some 66, .bin .neq (.tmp 63) (.tmp 65), (some (61, false)), []⟩,
  ⟨some 67, .pick (.tmp 61) (.const (.bool true)) (.tmp 66), none, []⟩]
def F.parlkeep5_CensusMore.r9 : List DOp := [
  ⟨some 6, .mv (.const (.bool false)), none, []⟩]
def F.parlkeep5_CensusMore.r10 : List DOp := [
  ⟨some 68, .mv (.tmp 9), none, []⟩,
  ⟨some 69, .len (.tmp 68), none, []⟩,
  ⟨some 70, .mv (.const (.int .i64 0)), none, []⟩]
def F.parlkeep5_CensusMore.r11 : List DOp := [
  ⟨some 71, .bin .lss (.tmp 70) (.tmp 69), none, []⟩]
def F.parlkeep5_CensusMore.r12 : List DOp := [
  ⟨some 72, .mv (.tmp 70), none, []⟩,
  ⟨some 13, .mv (.tmp 72), none, []⟩]
def F.parlkeep5_CensusMore.r13 : List DOp := [
  ⟨some 73, .mv (.tmp 9), none, []⟩,
  ⟨some 74, .mv (.tmp 13), none, []⟩,
  ⟨some 75, .idxs 1 (.tmp 73) (.tmp 74), none, []⟩,
  ⟨some 76, .load 1 false (.tmp 75), none, []⟩,
  ⟨some 77, .len (.tmp 76), none, []⟩,
  ⟨some 78, .mv (.const (.int .i64 0)), none, []⟩]
def F.parlkeep5_CensusMore.r14 : List DOp := [
  ⟨some 79, .bin .lss (.tmp 78) (.tmp 77), none, []⟩]
def F.parlkeep5_CensusMore.r15 : List DOp := [
  ⟨some 80, .mv (.tmp 78), none, []⟩,
  ⟨some 81, .idxs 1 (.tmp 76) (.tmp 78), none, []⟩,
  ⟨some 82, .load 1 false (.tmp 81), none, []⟩,
  ⟨some 14, .mv (.tmp 80), none, []⟩,
  ⟨some 15, .mv (.tmp 82), none, []⟩]
def F.parlkeep5_CensusMore.r16 : List DOp := [
  ⟨some 83, .mv (.tmp 11), none, []⟩,
  ⟨some 84, .mv (.tmp 13), none, []⟩,
  ⟨some 85, .idxs 1 (.tmp 83) (.tmp 84), none, []⟩,
  ⟨some 86, .load 1 false (.tmp 85), none, []⟩,
  ⟨some 87, .mv (.tmp 14), none, []⟩,
  ⟨some 88, .idxs 1 (.tmp 86) (.tmp 87), none, []⟩,
  ⟨some 89, .load 1 false (.tmp 88), none, []⟩,
  ⟨some 16, .mv (.tmp 89), none, []⟩]
def F.parlkeep5_CensusMore.r17 : List DOp := [
  ⟨some 90, .mv (.tmp 15), none, []⟩,
  ⟨some 91, .bin .neq (.tmp 90) (.const (.int .i64 (-1))), none, []⟩,
  ⟨some 92, .mv (.tmp 91), none, []⟩,
  ⟨some 93, .mv (.tmp 16), (some (92, true)), []⟩,
  ⟨some 94, .bin .eql (.tmp 93) (.const (.int .i64 (-1))), (some (92, true)), []⟩,
  ⟨some 95, .mv (.tmp 94), (some (92, true)), []⟩,
  ⟨some 96, .mv (.tmp 16), (some (95, false)), []⟩,
  ⟨some 97, .mv (.tmp 15), (some (95, false)), []⟩,
  ⟨some 98, .bin .gtr (.tmp 96) (.tmp 97), (some (95, false)), []⟩,
  ⟨some 99, .pick (.tmp 95) (.const (.bool true)) (.tmp 98), (some (92, true)), []⟩,
  ⟨some 100, .pick (.tmp 92) (.tmp 99) (.const (.bool false)), none, []⟩]
def F.parlkeep5_CensusMore.r18 : List DOp := [
  ⟨some 6, .mv (.const (.bool false)), none, []⟩]
def F.parlkeep5_CensusMore.r19 : List DOp := [
  ⟨some 101, .bin .add (.tmp 78) (.const (.int .i64 1)), none, []⟩,
  ⟨some 78, .mv (.tmp 101), none, []⟩]
def F.parlkeep5_CensusMore.L1 : ACode := .seq (.region F.parlkeep5_CensusMore.r14) (.seq (.cond (.tmp 79) (.skip) (.exit 2)) (.seq (.block 3 (.seq (.region F.parlkeep5_CensusMore.r15) (.seq (.region F.parlkeep5_CensusMore.r16) (.seq (.region F.parlkeep5_CensusMore.r17) (.cond (.tmp 100) (.seq (.region F.parlkeep5_CensusMore.r18) (.ret)) (.skip)))))) (.region F.parlkeep5_CensusMore.r19)))
def F.parlkeep5_CensusMore.r20 : List DOp := [
  ⟨some 102, .bin .add (.tmp 70) (.const (.int .i64 1)), none, []⟩,
  ⟨some 70, .mv (.tmp 102), none, []⟩]
def F.parlkeep5_CensusMore.L0 : ACode := .seq (.region F.parlkeep5_CensusMore.r11) (.seq (.cond (.tmp 71) (.skip) (.exit 0)) (.seq (.block 1 (.seq (.region F.parlkeep5_CensusMore.r12) (.seq (.region F.parlkeep5_CensusMore.r13) (.block 2 (.loop F.parlkeep5_CensusMore.L1))))) (.region F.parlkeep5_CensusMore.r20)))
def F.parlkeep5_CensusMore.r21 : List DOp := [
  ⟨some 6, .mv (.const (.bool true)), none, []⟩]
def F.parlkeep5_CensusMore.c : ACode := .seq (.region F.parlkeep5_CensusMore.r0) (.seq (.region F.parlkeep5_CensusMore.r1) (.seq (.region F.parlkeep5_CensusMore.r2) (.seq (.region F.parlkeep5_CensusMore.r3) (.seq (.region F.parlkeep5_CensusMore.r4) (.seq (.draw F.parlkeep5_CensusMore.r5 []) (.seq (.region F.parlkeep5_CensusMore.r6) (.seq (.region F.parlkeep5_CensusMore.r7) (.seq (.seq (.region F.parlkeep5_CensusMore.r8) (.cond (.tmp 67) (.seq (.region F.parlkeep5_CensusMore.r9) (.ret)) (.skip))) (.seq (.seq (.region F.parlkeep5_CensusMore.r10) (.block 0 (.loop F.parlkeep5_CensusMore.L0))) (.seq (.region F.parlkeep5_CensusMore.r21) (.ret)))))))))))
def F.parlkeep5_CensusMore : AFunc := ⟨F.parlkeep5_CensusMore.c, [.tmp 6]⟩
/-! parlance/parlkeep5.plain -/
def F.parlkeep5_plain.r0 : List DOp := [
  ⟨some 0, .alloc [.int .i64 0, .int .i64 0, .int .i64 0, .slice none 0 0], none, []⟩]
def F.parlkeep5_plain.r1 : List DOp := [
  ⟨some 1, .build [.bool false, .int .i64 0] [(0, 1, .const (.bool true))], none, []⟩,
  ⟨some 2, .bslice 2 1 [.bool false, .int .i64 0] [(0, 2, .tmp 1)], none, []⟩,
  ⟨some 3, .build [.int .i64 0, .slice none 0 0] [(1, 1, .tmp 2)], none, []⟩,
  ⟨some 4, .build [.bool false, .int .i64 0] [(0, 1, .const (.bool true)), (1, 1, .const (.int .i64 1))], none, []⟩,
  ⟨some 5, .build [.bool false, .int .i64 0] [], none, []⟩,
  ⟨some 6, .bslice 2 2 [.bool false, .int .i64 0, .bool false, .int .i64 0] [(0, 2, .tmp 4), (2, 2, .tmp 5)], none, []⟩,
  ⟨some 7, .build [.int .i64 0, .slice none 0 0] [(1, 1, .tmp 6)], none, []⟩,
  ⟨some 8, .bslice 2 2 [.int .i64 0, .slice none 0 0, .int .i64 0, .slice none 0 0] [(0, 2, .tmp 3), (2, 2, .tmp 7)], none, []⟩,
  ⟨some 9, .build [.int .i64 0, .int .i64 0, .int .i64 0, .slice none 0 0] [(0, 1, .const (.int .i64 2)), (1, 1, .const (.int .i64 1)), (3, 1, .tmp 8)], none, []⟩,
  ⟨none, .store 4 (.tmp 0) (.tmp 9), none, []⟩]
def F.parlkeep5_plain.c : ACode := .seq (.region F.parlkeep5_plain.r0) (.seq (.region F.parlkeep5_plain.r1) (.ret))
def F.parlkeep5_plain : AFunc := ⟨F.parlkeep5_plain.c, [.cell 0 4 true]⟩
/-! parlance/parlkeep5.below -/
def F.parlkeep5_below.r0 : List DOp := [
  ⟨some 4, .mv (.const (.int .i64 0)), none, []⟩]
def F.parlkeep5_below.r1 : List DOp := [
  ⟨some 5, .mv (.tmp 0), none, []⟩,
  ⟨some 6, .mv (.tmp 1), none, []⟩,
  ⟨some 7, .call I.parlmake_Below [.tmp 5, .tmp 6], none, []⟩,
  ⟨some 4, .mv (.tmp 7), none, []⟩]
def F.parlkeep5_below.c : ACode := .seq (.region F.parlkeep5_below.r0) (.seq (.region F.parlkeep5_below.r1) (.ret))
def F.parlkeep5_below : AFunc := ⟨F.parlkeep5_below.c, [.tmp 4]⟩
/-! parlance/parlkeep5.counts -/
def F.parlkeep5_counts.r0 : List DOp := [
  ⟨some 0, .mv (.const (.bool false)), none, []⟩]
def F.parlkeep5_counts.r1 : List DOp := [
  ⟨some 4, .call I.parlkeep5_plain [], none, []⟩,
  ⟨some 5, .call I.census_Total [.tmp 4, .const (.int .i64 2)], none, []⟩,
  ⟨some 3, .mv (.tmp 5), none, []⟩,
  ⟨some 6, .extract (.tmp 3) 0, none, []⟩,
  ⟨some 7, .extract (.tmp 3) 1, none, []⟩,
  ⟨some 1, .mv (.tmp 6), none, []⟩,
  ⟨some 2, .mv (.tmp 7), none, []⟩]
def F.parlkeep5_counts.r2 : List DOp := [
  ⟨some 8, .mv (.tmp 1), none, []⟩,
  ⟨some 9, .bin .eql (.tmp 8) (.const (.int .i64 2)), none, []⟩,
  ⟨some 10, .mv (.tmp 9), none, []⟩,
  ⟨some 11, .mv (.tmp 2), (some (10, true)), []⟩,
  ⟨some 12, .bin .eql (.tmp 11) (.const (.int .i64 0)), (some (10, true)), []⟩,
  ⟨some 13, .pick (.tmp 10) (.tmp 12) (.const (.bool false)), none, []⟩,
  ⟨some 0, .mv (.tmp 13), none, []⟩]
def F.parlkeep5_counts.c : ACode := .seq (.region F.parlkeep5_counts.r0) (.seq (.region F.parlkeep5_counts.r1) (.seq (.region F.parlkeep5_counts.r2) (.ret)))
def F.parlkeep5_counts : AFunc := ⟨F.parlkeep5_counts.c, [.tmp 0]⟩
end Go.Proofs.Ythgdobdhdfjhfaa
