/- The abstract code of package parlkeep5, written by wip/tools/gen.py from the translation. -/
import Derived.Test.YthgdobdhdfjhfaaI
namespace Go.Proofs.Ythgdobdhdfjhfaa
open Go Go.Ab
/-! parlance/parlkeep5.LensTrees -/
def F.parlkeep5_LensTrees.r0 : List DOp := [
  ⟨some 2, .mv (.const (.bool false)), none, []⟩]
def F.parlkeep5_LensTrees.r1 : List DOp := [
  ⟨some 12, .mv (.tmp 0), none, []⟩,
  ⟨some 13, .call I.parlmake_Grammar [.tmp 12], none, []⟩,
  ⟨some 3, .alloc [.int .i64 0, .int .i64 0, .int .i64 0, .slice none 0 0], none, []⟩,
  ⟨none, .store 4 (.tmp 3) (.tmp 13), none, []⟩]
def F.parlkeep5_LensTrees.r2 : List DOp := [
  ⟨some 15, .call I.parlkeep5_plain [], none, []⟩,
  ⟨some 16, .call I.lens_Set [.tmp 15, .const (.int .i64 1)], none, []⟩,
  ⟨some 14, .mv (.tmp 16), none, []⟩,
  ⟨some 17, .extract (.tmp 14) 0, none, []⟩,
  ⟨some 18, .extract (.tmp 14) 1, none, []⟩,
  ⟨some 4, .mv (.tmp 17), none, []⟩,
  ⟨some 5, .mv (.tmp 18), none, []⟩]
def F.parlkeep5_LensTrees.r3 : List DOp := [
  ⟨some 19, .mv (.tmp 5), none, []⟩,
  ⟨some 20, .bin .neq (.tmp 19) (.const (.int .i64 0)), none, []⟩,
  ⟨some 21, .mv (.tmp 20), none, []⟩,
  ⟨some 22, .mv (.tmp 4), (some (21, false)), []⟩,
  ⟨some 23, .len (.tmp 22), (some (21, false)), []⟩,
  ⟨some 24, .bin .neq (.tmp 23) (.const (.int .i64 2)), (some (21, false)), []⟩,
  ⟨some 25, .pick (.tmp 21) (.const (.bool true)) (.tmp 24), none, []⟩,
  ⟨some 26, .mv (.tmp 25), none, []⟩,
  ⟨some 27, .mv (.tmp 4), (some (26, false)), []⟩,
  ⟨some 28, .idxs 1 (.tmp 27) (.const (.int .i64 1)), (some (26, false)), []⟩,
  ⟨some 29, .load 1 false (.tmp 28), (some (26, false)), []⟩,
  ⟨some 30, .un .not (.tmp 29), (some (26, false)), []⟩,
  ⟨some 31, .pick (.tmp 26) (.const (.bool true)) (.tmp 30), none, []⟩]
def F.parlkeep5_LensTrees.r4 : List DOp := [
  ⟨some 2, .mv (.const (.bool false)), none, []⟩]
def F.parlkeep5_LensTrees.r5 : List DOp := [
  ⟨some 33, .load 4 true (.tmp 3), none, []⟩,
  ⟨some 34, .call I.lens_Set [.tmp 33, .const (.int .i64 24)], none, []⟩,
  ⟨some 32, .mv (.tmp 34), none, []⟩,
  ⟨some 35, .extract (.tmp 32) 0, none, []⟩,
  ⟨some 36, .extract (.tmp 32) 1, none, []⟩,
  ⟨some 6, .mv (.tmp 35), none, []⟩,
  ⟨some 7, .mv (.tmp 36), none, []⟩]
def F.parlkeep5_LensTrees.r6 : List DOp := [
  ⟨some 38, .load 4 true (.tmp 3), none, []⟩,
  ⟨some 39, .call I.census_Trees [.tmp 38, .const (.int .i64 24)], none, []⟩,
  ⟨some 37, .mv (.tmp 39), none, []⟩,
  ⟨some 40, .extract (.tmp 37) 0, none, []⟩,
  ⟨some 41, .extract (.tmp 37) 1, none, []⟩,
  ⟨some 8, .mv (.tmp 40), none, []⟩,
  ⟨some 9, .mv (.tmp 41), none, []⟩]
def F.parlkeep5_LensTrees.r7 : List DOp := [
  ⟨some 42, .mv (.tmp 7), none, []⟩,
  ⟨some 43, .bin .neq (.tmp 42) (.const (.int .i64 0)), none, []⟩,
  ⟨some 44, .mv (.tmp 43), none, []⟩,
  ⟨some 45, .mv (.tmp 9), (some (44, false)), []⟩,
  ⟨some 46, .bin .neq (.tmp 45) (.const (.int .i64 0)), (some (44, false)), []⟩,
  ⟨some 47, .pick (.tmp 44) (.const (.bool true)) (.tmp 46), none, []⟩,
  ⟨some 48, .mv (.tmp 47), none, []⟩,
  ⟨some 49, .mv (.tmp 6), (some (48, false)), []⟩,
  ⟨some 50, .len (.tmp 49), (some (48, false)), []⟩,
  ⟨some 51, .bin .neq (.tmp 50) (.const (.int .i64 25)), (some (48, false)), []⟩,
  ⟨some 52, .pick (.tmp 48) (.const (.bool true)) (.tmp 51), none, []⟩]
def F.parlkeep5_LensTrees.r8 : List DOp := [
  ⟨some 2, .mv (.const (.bool false)), none, []⟩]
def F.parlkeep5_LensTrees.r9 : List DOp := [
  ⟨some 53, .mv (.tmp 6), none, []⟩,
  ⟨some 54, .len (.tmp 53), none, []⟩,
  ⟨some 55, .mv (.const (.int .i64 0)), none, []⟩]
def F.parlkeep5_LensTrees.r10 : List DOp := [
  ⟨some 56, .bin .lss (.tmp 55) (.tmp 54), none, []⟩]
def F.parlkeep5_LensTrees.r11 : List DOp := [
  ⟨some 57, .mv (.tmp 55), none, []⟩,
  ⟨some 58, .idxs 1 (.tmp 53) (.tmp 55), none, []⟩,
  ⟨some 59, .load 1 false (.tmp 58), none, []⟩,
  ⟨some 10, .mv (.tmp 57), none, []⟩,
  ⟨some 11, .mv (.tmp 59), none, []⟩]
def F.parlkeep5_LensTrees.r12 : List DOp := [
  ⟨some 60, .mv (.tmp 11), none, []⟩,
  ⟨some 61, .mv (.tmp 8), none, []⟩,
  ⟨some 62, .faddr 2 (.tmp 3), none, []⟩,
  ⟨some 63, .load 1 false (.tmp 62), none, []⟩,
  ⟨some 64, .idxs 1 (.tmp 61) (.tmp 63), none, []⟩,
  ⟨some 65, .load 1 false (.tmp 64), none, []⟩,
  ⟨some 66, .mv (.tmp 10), none, []⟩,
  ⟨some 67, .idxs 1 (.tmp 65) (.tmp 66), none, []⟩,
  ⟨some 68, .load 1 false (.tmp 67), none, []⟩,
  ⟨some 69, .bin .neq (.tmp 68) (.const (.int .i64 0)), none, []⟩,
  ⟨some 70, .eq true .bool (.tmp 60) (.tmp 69), none, []⟩]
def F.parlkeep5_LensTrees.r13 : List DOp := [
  ⟨some 2, .mv (.const (.bool false)), none, []⟩]
def F.parlkeep5_LensTrees.r14 : List DOp := [
  ⟨some 71, .bin .add (.tmp 55) (.const (.int .i64 1)), none, []⟩,
  ⟨some 55, .mv (.tmp 71), none, []⟩]
def F.parlkeep5_LensTrees.L0 : ACode := .seq (.region F.parlkeep5_LensTrees.r10) (.seq (.cond (.tmp 56) (.skip) (.exit 0)) (.seq (.block 1 (.seq (.region F.parlkeep5_LensTrees.r11) (.seq (.region F.parlkeep5_LensTrees.r12) (.cond (.tmp 70) (.seq (.region F.parlkeep5_LensTrees.r13) (.ret)) (.skip))))) (.region F.parlkeep5_LensTrees.r14)))
def F.parlkeep5_LensTrees.r15 : List DOp := [
  ⟨some 2, .mv (.const (.bool true)), none, []⟩]
def F.parlkeep5_LensTrees.c : ACode := .seq (.region F.parlkeep5_LensTrees.r0) (.seq (.region F.parlkeep5_LensTrees.r1) (.seq (.seq (.region F.parlkeep5_LensTrees.r2) (.seq (.region F.parlkeep5_LensTrees.r3) (.cond (.tmp 31) (.seq (.region F.parlkeep5_LensTrees.r4) (.ret)) (.skip)))) (.seq (.region F.parlkeep5_LensTrees.r5) (.seq (.region F.parlkeep5_LensTrees.r6) (.seq (.seq (.region F.parlkeep5_LensTrees.r7) (.cond (.tmp 52) (.seq (.region F.parlkeep5_LensTrees.r8) (.ret)) (.skip))) (.seq (.seq (.region F.parlkeep5_LensTrees.r9) (.block 0 (.loop F.parlkeep5_LensTrees.L0))) (.seq (.region F.parlkeep5_LensTrees.r15) (.ret))))))))
def F.parlkeep5_LensTrees : AFunc := ⟨F.parlkeep5_LensTrees.c, [.tmp 2]⟩
/-! parlance/parlkeep5.plain -/
def F.parlkeep5_plain.r0 : List DOp := [
  ⟨some 0, .alloc [.int .i64 0, .int .i64 0, .int .i64 0, .slice none 0 0], none, []⟩]
def F.parlkeep5_plain.r1 : List DOp := [
  ⟨some 1, .build [.bool false, .int .i64 0] [(0, 1, .const (.bool true))], none, []⟩,
  ⟨some 2, .bslice 2 1 [.bool false, .int .i64 0] [(0, 2, .tmp 1)], none, []⟩,
  ⟨some 3, .build [.int .i64 0, .slice none 0 0] [(1, 1, .tmp 2)], none, []⟩,
  ⟨some 4, .build [.bool false, .int .i64 0] [(0, 1, .const (.bool true)), (1, 1, .const (.int .i64 1))], none, []⟩,
  ⟨some 5, .build [.bool false, .int .i64 0] [], none, []⟩,
  ⟨some 6, .bslice 2 2 [.bool false, .int .i64 0, .bool false, .int .i64 0] [(0, 2, .tmp 4), (2, 2, .tmp 5)], none, []⟩,
  ⟨some 7, .build [.int .i64 0, .slice none 0 0] [(1, 1, .tmp 6)], none, []⟩,
  ⟨some 8, .bslice 2 2 [.int .i64 0, .slice none 0 0, .int .i64 0, .slice none 0 0] [(0, 2, .tmp 3), (2, 2, .tmp 7)], none, []⟩,
  ⟨some 9, .build [.int .i64 0, .int .i64 0, .int .i64 0, .slice none 0 0] [(0, 1, .const (.int .i64 2)), (1, 1, .const (.int .i64 1)), (3, 1, .tmp 8)], none, []⟩,
  ⟨none, .store 4 (.tmp 0) (.tmp 9), none, []⟩]
def F.parlkeep5_plain.c : ACode := .seq (.region F.parlkeep5_plain.r0) (.seq (.region F.parlkeep5_plain.r1) (.ret))
def F.parlkeep5_plain : AFunc := ⟨F.parlkeep5_plain.c, [.cell 0 4 true]⟩
end Go.Proofs.Ythgdobdhdfjhfaa
