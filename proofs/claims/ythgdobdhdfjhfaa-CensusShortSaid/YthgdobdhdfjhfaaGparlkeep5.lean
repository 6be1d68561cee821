/- The abstract code of package parlkeep5, written by wip/tools/gen.py from the translation. -/
import Derived.Test.YthgdobdhdfjhfaaI
namespace Go.Proofs.Ythgdobdhdfjhfaa
open Go Go.Ab
/-! parlance/parlkeep5.CensusShort -/
def F.parlkeep5_CensusShort.r0 : List DOp := [
  ⟨some 4, .mv (.const (.bool false)), none, []⟩]
def F.parlkeep5_CensusShort.r1 : List DOp := [
  ⟨some 11, .mv (.tmp 0), none, []⟩,
  ⟨some 12, .call I.parlmake_Grammar [.tmp 11], none, []⟩,
  ⟨some 5, .alloc [.int .i64 0, .int .i64 0, .int .i64 0, .slice none 0 0], none, []⟩,
  ⟨none, .store 4 (.tmp 5) (.tmp 12), none, []⟩]
def F.parlkeep5_CensusShort.r2 : List DOp := [
  ⟨some 13, .mv (.tmp 1), none, []⟩,
  ⟨some 14, .call I.parlkeep5_below [.tmp 13, .const (.int .i64 12)], none, []⟩,
  ⟨some 1, .mv (.tmp 14), none, []⟩]
def F.parlkeep5_CensusShort.r3 : List DOp := [
  ⟨some 16, .load 4 true (.tmp 5), none, []⟩,
  ⟨some 17, .mv (.tmp 1), none, []⟩,
  ⟨some 18, .call I.census_Trees [.tmp 16, .tmp 17], none, []⟩,
  ⟨some 15, .mv (.tmp 18), none, []⟩,
  ⟨some 19, .extract (.tmp 15) 0, none, []⟩,
  ⟨some 20, .extract (.tmp 15) 1, none, []⟩,
  ⟨some 6, .mv (.tmp 19), none, []⟩,
  ⟨some 7, .mv (.tmp 20), none, []⟩]
def F.parlkeep5_CensusShort.r4 : List DOp := [
  ⟨some 22, .load 4 true (.tmp 5), none, []⟩,
  ⟨some 23, .mv (.tmp 1), none, []⟩,
  ⟨some 24, .bin .add (.tmp 23) (.const (.int .i64 1)), none, []⟩,
  ⟨some 25, .mv (.tmp 1), none, []⟩,
  ⟨some 26, .call I.parlkeep5_below [.tmp 25, .const (.int .i64 5)], none, []⟩,
  ⟨some 27, .bin .add (.tmp 24) (.tmp 26), none, []⟩,
  ⟨some 28, .call I.census_Trees [.tmp 22, .tmp 27], none, []⟩,
  ⟨some 21, .mv (.tmp 28), none, []⟩,
  ⟨some 29, .extract (.tmp 21) 0, none, []⟩,
  ⟨some 30, .extract (.tmp 21) 1, none, []⟩,
  ⟨some 8, .mv (.tmp 29), none, []⟩,
  ⟨some 9, .mv (.tmp 30), none, []⟩]
def F.parlkeep5_CensusShort.r5 : List DOp := [
  ⟨some 31, .call I.parlkeep5_counts [], none, []⟩,
  ⟨some 32, .un .not (.tmp 31), none, []⟩,
  ⟨some 33, .mv (.tmp 32), none, []⟩,
  ⟨some 34, .mv (.tmp 7), (some (33, false)), []⟩,
  ⟨some 35, .bin .neq (.tmp 34) (.const (.int .i64 0)), (some (33, false)), []⟩,
  ⟨some 36, .pick (.tmp 33) (.const (.bool true)) (.tmp 35), none, []⟩,
  ⟨some 37, .mv (.tmp 36), none, []⟩,
  ⟨some 38, .mv (.tmp 9), (some (37, false)), []⟩,
  ⟨some 39, .bin .neq (.tmp 38) (.const (.int .i64 0)), (some (37, false)), []⟩,
  ⟨some 40, .pick (.tmp 37) (.const (.bool true)) (.tmp 39), none, []⟩,
  ⟨some 41, .mv (.tmp 40), none, []⟩,
  ⟨some 42, .mv (.tmp 6), (some (41, false)), []⟩,
  ⟨some 43, .len (.tmp 42), (some (41, false)), []⟩,
  ⟨some 44, .mv (.tmp 8), (some (41, false)), []⟩,
  ⟨some 45, .len (.tmp 44), (some (41, false)), []⟩,
  ⟨some 46, .bin .neq (.tmp 43) (.tmp 45), (some (41, false)), []⟩,
  ⟨some 47, .pick (.tmp 41) (.const (.bool true)) (.tmp 46), none, []⟩]
def F.parlkeep5_CensusShort.r6 : List DOp := [
  ⟨some 4, .mv (.const (.bool false)), none, []⟩]
def F.parlkeep5_CensusShort.r7 : List DOp := [
  ⟨some 48, .mv (.tmp 6), none, []⟩,
  ⟨some 49, .len (.tmp 48), none, []⟩,
  ⟨some 50, .mv (.const (.int .i64 0)), none, []⟩]
def F.parlkeep5_CensusShort.r8 : List DOp := [
  ⟨some 51, .bin .lss (.tmp 50) (.tmp 49), none, []⟩]
def F.parlkeep5_CensusShort.r9 : List DOp := [
  ⟨some 52, .mv (.tmp 50), none, []⟩,
  ⟨some 10, .mv (.tmp 52), none, []⟩]
def F.parlkeep5_CensusShort.r10 : List DOp := [
  ⟨some 53, .mv (.tmp 6), none, []⟩,
  ⟨some 54, .mv (.tmp 10), none, []⟩,
  ⟨some 55, .idxs 1 (.tmp 53) (.tmp 54), none, []⟩,
  ⟨some 56, .load 1 false (.tmp 55), none, []⟩,
  ⟨some 57, .len (.tmp 56), none, []⟩,
  ⟨some 58, .mv (.tmp 1), none, []⟩,
  ⟨some 59, .bin .add (.tmp 58) (.const (.int .i64 1)), none, []⟩,
  ⟨some 60, .bin .neq (.tmp 57) (.tmp 59), none, []⟩,
  ⟨some 61, .mv (.tmp 60), none, []⟩,
  ⟨some 62, .mv (.tmp 8), (some (61, false)), []⟩,
  ⟨some 63, .mv (.tmp 10), (some (61, false)), []⟩,
  ⟨some 64, .idxs 1 (.tmp 62) (.tmp 63), (some (61, false)), []⟩,
  ⟨some 65, .load 1 false (.tmp 64), (some (61, false)), []⟩,
  ⟨some 66, .len (.tmp 65), (some (61, false)), []⟩,
  ⟨some 67, .mv (.tmp 1), (some (61, false)), []⟩,
  ⟨some 68, .bin .add (.tmp 67) (.const (.int .i64 1)), (some (61, false)), []⟩,
  ⟨some 69, .bin .lss (.tmp 66) (.tmp 68), (some (61, false)), []⟩,
  ⟨some 70, .pick (.tmp 61) (.const (.bool true)) (.tmp 69), none, []⟩,
  ⟨some 71, .mv (.tmp 70), none, []⟩,
  ⟨some 72, .mv (.tmp 6), (some (71, false)), []⟩,
  ⟨some 73, .mv (.tmp 10), (some (71, false)), []⟩,
  ⟨some 74, .idxs 1 (.tmp 72) (.tmp 73), (some (71, false)), []⟩,
  ⟨some 75, .load 1 false (.tmp 74), (some (71, false)), []⟩,
  ⟨some 76, .mv (.tmp 8), (some (71, false)), []⟩,
  ⟨some 77, .mv (.tmp 10), (some (71, false)), []⟩,
  ⟨some 78, .idxs 1 (.tmp 76) (.tmp 77), (some (71, false)), []⟩,
  ⟨some 79, .load 1 false (.tmp 78), (some (71, false)), []⟩,
  ⟨some 80, .mv (.tmp 1), (some (71, false)), []⟩,
  ⟨some 81, .bin .add (.tmp 80) (.const (.int .i64 1)), (some (71, false)), []⟩,
  ⟨some 82, .slice 1 (.tmp 79) none (some (.tmp 81)), (some (71, false)), []⟩,
  ⟨some 83, .call I.slices_Equal_int_int [.tmp 75, .tmp 82], (some (71, false)), []⟩,
  ⟨some 84, .un .not (.tmp 83), (some (71, false)), []⟩,
  ⟨some 85, .pick (.tmp 71) (.const (.bool true)) (.tmp 84), none, []⟩]
def F.parlkeep5_CensusShort.r11 : List DOp := [
  ⟨some 4, .mv (.const (.bool false)), none, []⟩]
def F.parlkeep5_CensusShort.r12 : List DOp := [
  ⟨some 86, .bin .add (.tmp 50) (.const (.int .i64 1)), none, []⟩,
  ⟨some 50, .mv (.tmp 86), none, []⟩]
def F.parlkeep5_CensusShort.L0 : ACode := .seq (.region F.parlkeep5_CensusShort.r8) (.seq (.cond (.tmp 51) (.skip) (.exit 0)) (.seq (.block 1 (.seq (.region F.parlkeep5_CensusShort.r9) (.seq (.draw F.parlkeep5_CensusShort.r10 []) (.cond (.tmp 85) (.seq (.region F.parlkeep5_CensusShort.r11) (.ret)) (.skip))))) (.region F.parlkeep5_CensusShort.r12)))
def F.parlkeep5_CensusShort.r13 : List DOp := [
  ⟨some 4, .mv (.const (.bool true)), none, []⟩]
def F.parlkeep5_CensusShort.c : ACode := .seq (.region F.parlkeep5_CensusShort.r0) (.seq (.region F.parlkeep5_CensusShort.r1) (.seq (.region F.parlkeep5_CensusShort.r2) (.seq (.region F.parlkeep5_CensusShort.r3) (.seq (.draw F.parlkeep5_CensusShort.r4 [(0, 4)]) (.seq (.seq (.region F.parlkeep5_CensusShort.r5) (.cond (.tmp 47) (.seq (.region F.parlkeep5_CensusShort.r6) (.ret)) (.skip))) (.seq (.seq (.region F.parlkeep5_CensusShort.r7) (.block 0 (.loop F.parlkeep5_CensusShort.L0))) (.seq (.region F.parlkeep5_CensusShort.r13) (.ret))))))))
def F.parlkeep5_CensusShort : AFunc := ⟨F.parlkeep5_CensusShort.c, [.tmp 4]⟩
/-! parlance/parlkeep5.plain -/
def F.parlkeep5_plain.r0 : List DOp := [
  ⟨some 0, .alloc [.int .i64 0, .int .i64 0, .int .i64 0, .slice none 0 0], none, []⟩]
def F.parlkeep5_plain.r1 : List DOp := [
  ⟨some 1, .build [.bool false, .int .i64 0] [(0, 1, .const (.bool true))], none, []⟩,
  ⟨some 2, .bslice 2 1 [.bool false, .int .i64 0] [(0, 2, .tmp 1)], none, []⟩,
  ⟨some 3, .build [.int .i64 0, .slice none 0 0] [(1, 1, .tmp 2)], none, []⟩,
  ⟨some 4, .build [.bool false, .int .i64 0] [(0, 1, .const (.bool true)), (1, 1, .const (.int .i64 1))], none, []⟩,
  ⟨some 5, .build [.bool false, .int .i64 0] [], none, []⟩,
  ⟨some 6, .bslice 2 2 [.bool false, .int .i64 0, .bool false, .int .i64 0] [(0, 2, .tmp 4), (2, 2, .tmp 5)], none, []⟩,
  ⟨some 7, .build [.int .i64 0, .slice none 0 0] [(1, 1, .tmp 6)], none, []⟩,
  ⟨some 8, .bslice 2 2 [.int .i64 0, .slice none 0 0, .int .i64 0, .slice none 0 0] [(0, 2, .tmp 3), (2, 2, .tmp 7)], none, []⟩,
  ⟨some 9, .build [.int .i64 0, .int .i64 0, .int .i64 0, .slice none 0 0] [(0, 1, .const (.int .i64 2)), (1, 1, .const (.int .i64 1)), (3, 1, .tmp 8)], none, []⟩,
  ⟨none, .store 4 (.tmp 0) (.tmp 9), none, []⟩]
def F.parlkeep5_plain.c : ACode := .seq (.region F.parlkeep5_plain.r0) (.seq (.region F.parlkeep5_plain.r1) (.ret))
def F.parlkeep5_plain : AFunc := ⟨F.parlkeep5_plain.c, [.cell 0 4 true]⟩
/-! parlance/parlkeep5.below -/
def F.parlkeep5_below.r0 : List DOp := [
  ⟨some 4, .mv (.const (.int .i64 0)), none, []⟩]
def F.parlkeep5_below.r1 : List DOp := [
  ⟨some 5, .mv (.tmp 0), none, []⟩,
  ⟨some 6, .mv (.tmp 1), none, []⟩,
  ⟨some 7, .call I.parlmake_Below [.tmp 5, .tmp 6], none, []⟩,
  ⟨some 4, .mv (.tmp 7), none, []⟩]
def F.parlkeep5_below.c : ACode := .seq (.region F.parlkeep5_below.r0) (.seq (.region F.parlkeep5_below.r1) (.ret))
def F.parlkeep5_below : AFunc := ⟨F.parlkeep5_below.c, [.tmp 4]⟩
/-! parlance/parlkeep5.counts -/
def F.parlkeep5_counts.r0 : List DOp := [
  ⟨some 0, .mv (.const (.bool false)), none, []⟩]
def F.parlkeep5_counts.r1 : List DOp := [
  ⟨some 4, .call I.parlkeep5_plain [], none, []⟩,
  ⟨some 5, .call I.census_Total [.tmp 4, .const (.int .i64 2)], none, []⟩,
  ⟨some 3, .mv (.tmp 5), none, []⟩,
  ⟨some 6, .extract (.tmp 3) 0, none, []⟩,
  ⟨some 7, .extract (.tmp 3) 1, none, []⟩,
  ⟨some 1, .mv (.tmp 6), none, []⟩,
  ⟨some 2, .mv (.tmp 7), none, []⟩]
def F.parlkeep5_counts.r2 : List DOp := [
  ⟨some 8, .mv (.tmp 1), none, []⟩,
  ⟨some 9, .bin .eql (.tmp 8) (.const (.int .i64 2)), none, []⟩,
  ⟨some 10, .mv (.tmp 9), none, []⟩,
  ⟨some 11, .mv (.tmp 2), (some (10, true)), []⟩,
  ⟨some 12, .bin .eql (.tmp 11) (.const (.int .i64 0)), (some (10, true)), []⟩,
  ⟨some 13, .pick (.tmp 10) (.tmp 12) (.const (.bool false)), none, []⟩,
  ⟨some 0, .mv (.tmp 13), none, []⟩]
def F.parlkeep5_counts.c : ACode := .seq (.region F.parlkeep5_counts.r0) (.seq (.region F.parlkeep5_counts.r1) (.seq (.region F.parlkeep5_counts.r2) (.ret)))
def F.parlkeep5_counts : AFunc := ⟨F.parlkeep5_counts.c, [.tmp 0]⟩
end Go.Proofs.Ythgdobdhdfjhfaa
