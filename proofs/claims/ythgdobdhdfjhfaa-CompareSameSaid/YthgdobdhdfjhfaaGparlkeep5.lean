/- The abstract code of package parlkeep5, written by wip/tools/gen.py from the translation. -/
import Derived.Test.YthgdobdhdfjhfaaI
namespace Go.Proofs.Ythgdobdhdfjhfaa
open Go Go.Ab
/-! parlance/parlkeep5.CompareSame -/
def F.parlkeep5_CompareSame.r0 : List DOp := [
  ⟨some 4, .mv (.const (.bool false)), none, []⟩]
def F.parlkeep5_CompareSame.r1 : List DOp := [
  ⟨some 13, .mv (.tmp 0), none, []⟩,
  ⟨some 14, .call I.parlmake_Grammar [.tmp 13], none, []⟩,
  ⟨some 5, .alloc [.int .i64 0, .int .i64 0, .int .i64 0, .slice none 0 0], none, []⟩,
  ⟨none, .store 4 (.tmp 5) (.tmp 14), none, []⟩]
def F.parlkeep5_CompareSame.r2 : List DOp := [
  ⟨some 16, .call I.parlkeep5_plain [], none, []⟩,
  ⟨some 17, .build [.int .i64 0, .int .i64 0, .int .i64 0, .slice none 0 0] [(0, 1, .const (.int .i64 2)), (1, 1, .const (.int .i64 1))], none, []⟩,
  ⟨some 18, .call I.compare_Least [.tmp 16, .tmp 17, .const (.int .i64 2)], none, []⟩,
  ⟨some 15, .mv (.tmp 18), none, []⟩,
  ⟨some 19, .extract (.tmp 15) 0, none, []⟩,
  ⟨some 20, .extract (.tmp 15) 1, none, []⟩,
  ⟨some 21, .extract (.tmp 15) 2, none, []⟩,
  ⟨some 6, .mv (.tmp 19), none, []⟩,
  ⟨some 7, .mv (.tmp 20), none, []⟩,
  ⟨some 8, .mv (.tmp 21), none, []⟩]
def F.parlkeep5_CompareSame.r3 : List DOp := [
  ⟨some 22, .mv (.tmp 8), none, []⟩,
  ⟨some 23, .bin .neq (.tmp 22) (.const (.int .i64 0)), none, []⟩,
  ⟨some 24, .mv (.tmp 23), none, []⟩,
  ⟨some 25, .mv (.tmp 7), (some (24, false)), []⟩,
  ⟨some 26, .bin .neq (.tmp 25) (.const (.int .i64 1)), (some (24, false)), []⟩,
  ⟨some 27, .pick (.tmp 24) (.const (.bool true)) (.tmp 26), none, []⟩,
  ⟨some 28, .mv (.tmp 27), none, []⟩,
  ⟨some 29, .mv (.tmp 6), (some (28, false)), []⟩,
  ⟨some 30, .bslice 1 1 [.int .i64 0] [(0, 1, .const (.int .i64 0))], (some (28, false)), []⟩,
  ⟨some 31, .call I.slices_Equal_int_int [.tmp 29, .tmp 30], (some (28, false)), []⟩,
  ⟨some 32, .un .not (.tmp 31), (some (28, false)), []⟩,
  ⟨some 33, .pick (.tmp 28) (.const (.bool true)) (.tmp 32), none, []⟩]
def F.parlkeep5_CompareSame.r4 : List DOp := [
  ⟨some 4, .mv (.const (.bool false)), none, []⟩]
def F.parlkeep5_CompareSame.r5 : List DOp := [
  ⟨some 34, .load 4 true (.tmp 5), none, []⟩,
  ⟨some 9, .alloc [.int .i64 0, .int .i64 0, .int .i64 0, .slice none 0 0], none, []⟩,
  ⟨none, .store 4 (.tmp 9) (.tmp 34), none, []⟩]
def F.parlkeep5_CompareSame.r6 : List DOp := [
  ⟨some 35, .faddr 3 (.tmp 5), none, []⟩,
  ⟨some 36, .load 1 false (.tmp 35), none, []⟩,
  ⟨some 37, .call I.slices_Clone_api_Rule_api_Rule [.tmp 36], none, []⟩,
  ⟨some 38, .faddr 3 (.tmp 9), none, []⟩,
  ⟨none, .store 1 (.tmp 38) (.tmp 37), none, []⟩]
def F.parlkeep5_CompareSame.r7 : List DOp := [
  ⟨some 39, .faddr 3 (.tmp 9), none, []⟩,
  ⟨some 40, .load 1 false (.tmp 39), none, []⟩,
  ⟨some 41, .call I.slices_Reverse_api_Rule_api_Rule [.tmp 40], none, []⟩]
def F.parlkeep5_CompareSame.r8 : List DOp := [
  ⟨some 43, .load 4 true (.tmp 5), none, []⟩,
  ⟨some 44, .load 4 true (.tmp 9), none, []⟩,
  ⟨some 45, .mv (.tmp 1), none, []⟩,
  ⟨some 46, .call I.parlkeep5_below [.tmp 45, .const (.int .i64 4)], none, []⟩,
  ⟨some 47, .call I.compare_Least [.tmp 43, .tmp 44, .tmp 46], none, []⟩,
  ⟨some 42, .mv (.tmp 47), none, []⟩,
  ⟨some 48, .extract (.tmp 42) 0, none, []⟩,
  ⟨some 49, .extract (.tmp 42) 1, none, []⟩,
  ⟨some 50, .extract (.tmp 42) 2, none, []⟩,
  ⟨some 10, .mv (.tmp 48), none, []⟩,
  ⟨some 11, .mv (.tmp 49), none, []⟩,
  ⟨some 12, .mv (.tmp 50), none, []⟩]
def F.parlkeep5_CompareSame.r9 : List DOp := [
  ⟨some 51, .mv (.tmp 12), none, []⟩,
  ⟨some 52, .bin .eql (.tmp 51) (.const (.int .i64 5)), none, []⟩,
  ⟨some 53, .mv (.tmp 52), none, []⟩,
  ⟨some 54, .mv (.tmp 11), (some (53, true)), []⟩,
  ⟨some 55, .bin .eql (.tmp 54) (.const (.int .i64 0)), (some (53, true)), []⟩,
  ⟨some 56, .pick (.tmp 53) (.tmp 55) (.const (.bool false)), none, []⟩,
  ⟨some 4, .mv (.tmp 56), none, []⟩]
def F.parlkeep5_CompareSame.c : ACode := .seq (.region F.parlkeep5_CompareSame.r0) (.seq (.region F.parlkeep5_CompareSame.r1) (.seq (.seq (.region F.parlkeep5_CompareSame.r2) (.seq (.region F.parlkeep5_CompareSame.r3) (.cond (.tmp 33) (.seq (.region F.parlkeep5_CompareSame.r4) (.ret)) (.skip)))) (.seq (.region F.parlkeep5_CompareSame.r5) (.seq (.region F.parlkeep5_CompareSame.r6) (.seq (.region F.parlkeep5_CompareSame.r7) (.seq (.draw F.parlkeep5_CompareSame.r8 [(0, 3), (1, 3)]) (.seq (.region F.parlkeep5_CompareSame.r9) (.ret))))))))
def F.parlkeep5_CompareSame : AFunc := ⟨F.parlkeep5_CompareSame.c, [.tmp 4]⟩
/-! parlance/parlkeep5.plain -/
def F.parlkeep5_plain.r0 : List DOp := [
  ⟨some 0, .alloc [.int .i64 0, .int .i64 0, .int .i64 0, .slice none 0 0], none, []⟩]
def F.parlkeep5_plain.r1 : List DOp := [
  ⟨some 1, .build [.bool false, .int .i64 0] [(0, 1, .const (.bool true))], none, []⟩,
  ⟨some 2, .bslice 2 1 [.bool false, .int .i64 0] [(0, 2, .tmp 1)], none, []⟩,
  ⟨some 3, .build [.int .i64 0, .slice none 0 0] [(1, 1, .tmp 2)], none, []⟩,
  ⟨some 4, .build [.bool false, .int .i64 0] [(0, 1, .const (.bool true)), (1, 1, .const (.int .i64 1))], none, []⟩,
  ⟨some 5, .build [.bool false, .int .i64 0] [], none, []⟩,
  ⟨some 6, .bslice 2 2 [.bool false, .int .i64 0, .bool false, .int .i64 0] [(0, 2, .tmp 4), (2, 2, .tmp 5)], none, []⟩,
  ⟨some 7, .build [.int .i64 0, .slice none 0 0] [(1, 1, .tmp 6)], none, []⟩,
  ⟨some 8, .bslice 2 2 [.int .i64 0, .slice none 0 0, .int .i64 0, .slice none 0 0] [(0, 2, .tmp 3), (2, 2, .tmp 7)], none, []⟩,
  ⟨some 9, .build [.int .i64 0, .int .i64 0, .int .i64 0, .slice none 0 0] [(0, 1, .const (.int .i64 2)), (1, 1, .const (.int .i64 1)), (3, 1, .tmp 8)], none, []⟩,
  ⟨none, .store 4 (.tmp 0) (.tmp 9), none, []⟩]
def F.parlkeep5_plain.c : ACode := .seq (.region F.parlkeep5_plain.r0) (.seq (.region F.parlkeep5_plain.r1) (.ret))
def F.parlkeep5_plain : AFunc := ⟨F.parlkeep5_plain.c, [.cell 0 4 true]⟩
/-! parlance/parlkeep5.below -/
def F.parlkeep5_below.r0 : List DOp := [
  ⟨some 4, .mv (.const (.int .i64 0)), none, []⟩]
def F.parlkeep5_below.r1 : List DOp := [
  ⟨some 5, .mv (.tmp 0), none, []⟩,
  ⟨some 6, .mv (.tmp 1), none, []⟩,
  ⟨some 7, .call I.parlmake_Below [.tmp 5, .tmp 6], none, []⟩,
  ⟨some 4, .mv (.tmp 7), none, []⟩]
def F.parlkeep5_below.c : ACode := .seq (.region F.parlkeep5_below.r0) (.seq (.region F.parlkeep5_below.r1) (.ret))
def F.parlkeep5_below : AFunc := ⟨F.parlkeep5_below.c, [.tmp 4]⟩
end Go.Proofs.Ythgdobdhdfjhfaa
