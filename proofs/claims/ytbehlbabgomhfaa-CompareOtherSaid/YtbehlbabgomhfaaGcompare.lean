/- The abstract code of package compare, written by wip/tools/gen.py from the translation. -/
import Derived.Test.YtbehlbabgomhfaaI
namespace Go.Proofs.Ytbehlbabgomhfaa
open Go Go.Ab
/-! parlance/compare.Other -/
def F.compare_Other.r0 : List DOp := [
  ⟨some 1, .box (.tmp 0), none, []⟩,
  ⟨some 2, .alloc [.int .i64 0, .slice none 0 0, .slice none 0 0], none, []⟩]
def F.compare_Other.r1 : List DOp := [
  ⟨some 11, .load 3 true (.tmp 1), none, []⟩,
  ⟨some 12, .call I.dfa_Check [.tmp 11], none, []⟩,
  ⟨some 13, .bin .neq (.tmp 12) (.const (.int .i64 0)), none, []⟩]
def F.compare_Other.r2 : List DOp := [
  ⟨some 14, .build [.int .i64 0, .slice none 0 0, .slice none 0 0] [], none, []⟩,
  ⟨none, .store 3 (.tmp 2) (.tmp 14), none, []⟩]
def F.compare_Other.r3 : List DOp := [
  ⟨some 15, .faddr 2 (.tmp 1), none, []⟩,
  ⟨some 16, .load 1 false (.tmp 15), none, []⟩,
  ⟨some 17, .len (.tmp 16), none, []⟩,
  ⟨some 3, .mv (.tmp 17), none, []⟩]
def F.compare_Other.r4 : List DOp := [
  ⟨some 18, .faddr 0 (.tmp 1), none, []⟩,
  ⟨some 19, .load 1 false (.tmp 18), none, []⟩,
  ⟨some 20, .build [.int .i64 0, .slice none 0 0, .slice none 0 0] [(0, 1, .tmp 19)], none, []⟩,
  ⟨some 4, .alloc [.int .i64 0, .slice none 0 0, .slice none 0 0], none, []⟩,
  ⟨none, .store 3 (.tmp 4) (.tmp 20), none, []⟩]
def F.compare_Other.r5 : List DOp := [
  ⟨some 21, .faddr 2 (.tmp 1), none, []⟩,
  ⟨some 22, .load 1 false (.tmp 21), none, []⟩,
  ⟨some 23, .len (.tmp 22), none, []⟩,
  ⟨some 24, .mv (.const (.int .i64 0)), none, []⟩]
def F.compare_Other.r6 : List DOp := [
  ⟨some 25, .bin .lss (.tmp 24) (.tmp 23), none, []⟩]
def F.compare_Other.r7 : List DOp := [
  ⟨some 26, .mv (.tmp 24), none, []⟩,
  ⟨some 27, .idxs 1 (.tmp 22) (.tmp 24), none, []⟩,
  ⟨some 28, .load 1 false (.tmp 27), none, []⟩,
  ⟨some 5, .mv (.tmp 26), none, []⟩,
  ⟨some 6, .mv (.tmp 28), none, []⟩]
def F.compare_Other.r8 : List DOp := [
  ⟨some 7, .mv (.const (.slice none 0 0)), none, []⟩]
def F.compare_Other.r9 : List DOp := [
  ⟨some 29, .mv (.tmp 6), none, []⟩,
  ⟨some 30, .len (.tmp 29), none, []⟩,
  ⟨some 31, .mv (.const (.int .i64 0)), none, []⟩]
def F.compare_Other.r10 : List DOp := [
  ⟨some 32, .bin .lss (.tmp 31) (.tmp 30), none, []⟩]
def F.compare_Other.r11 : List DOp := [
  ⟨some 33, .idxs 1 (.tmp 29) (.tmp 31), none, []⟩,
  ⟨some 34, .load 1 false (.tmp 33), none, []⟩,
  ⟨some 9, .mv (.tmp 34), none, []⟩]
def F.compare_Other.r12 : List DOp := [
  ⟨some 35, .mv (.tmp 9), none, []⟩,
  ⟨some 36, .bin .lss (.tmp 35) (.const (.int .i64 0)), none, []⟩]
def F.compare_Other.r13 : List DOp := [
  ⟨some 37, .mv (.tmp 3), none, []⟩,
  ⟨some 9, .mv (.tmp 37), none, []⟩]
def F.compare_Other.r14 : List DOp := [
  ⟨some 38, .mv (.tmp 7), none, []⟩,
  ⟨some 39, .mv (.tmp 9), none, []⟩,
  ⟨some 40, .bslice 1 1 [.int .i64 0] [(0, 1, .tmp 39)], none, []⟩,
  ⟨some 41, .append 1 8 (.tmp 38) (.tmp 40), none, []⟩,
  ⟨some 7, .mv (.tmp 41), none, []⟩]
def F.compare_Other.r15 : List DOp := [
  ⟨some 42, .bin .add (.tmp 31) (.const (.int .i64 1)), none, []⟩,
  ⟨some 31, .mv (.tmp 42), none, []⟩]
def F.compare_Other.L1 : ACode := .seq (.region F.compare_Other.r10) (.seq (.cond (.tmp 32) (.skip) (.exit 2)) (.seq (.block 3 (.seq (.region F.compare_Other.r11) (.seq (.seq (.region F.compare_Other.r12) (.cond (.tmp 36) (.region F.compare_Other.r13) (.skip))) (.region F.compare_Other.r14)))) (.region F.compare_Other.r15)))
def F.compare_Other.r16 : List DOp := [
  ⟨some 43, .faddr 2 (.tmp 4), none, []⟩,
  ⟨some 44, .load 1 false (.tmp 43), none, []⟩,
  ⟨some 45, .mv (.tmp 7), none, []⟩,
  ⟨some 46, .bslice 1 1 [.slice none 0 0] [(0, 1, .tmp 45)], none, []⟩,
  ⟨some 47, .append 1 24 (.tmp 44) (.tmp 46), none, []⟩,
  ⟨some 48, .faddr 2 (.tmp 4), none, []⟩,
  ⟨none, .store 1 (.tmp 48) (.tmp 47), none, []⟩]
def F.compare_Other.r17 : List DOp := [
  ⟨some 49, .faddr 1 (.tmp 1), none, []⟩,
  ⟨some 50, .load 1 false (.tmp 49), none, []⟩,
  ⟨some 51, .mv (.tmp 5), none, []⟩,
  ⟨some 52, .idxs 1 (.tmp 50) (.tmp 51), none, []⟩,
  ⟨some 53, .load 1 false (.tmp 52), none, []⟩,
  ⟨some 54, .bin .lss (.tmp 53) (.const (.int .i64 0)), none, []⟩]
def F.compare_Other.r18 : List DOp := [
  ⟨some 55, .faddr 1 (.tmp 4), none, []⟩,
  ⟨some 56, .load 1 false (.tmp 55), none, []⟩,
  ⟨some 57, .bslice 1 1 [.int .i64 0] [(0, 1, .const (.int .i64 0))], none, []⟩,
  ⟨some 58, .append 1 8 (.tmp 56) (.tmp 57), none, []⟩,
  ⟨some 59, .faddr 1 (.tmp 4), none, []⟩,
  ⟨none, .store 1 (.tmp 59) (.tmp 58), none, []⟩]
def F.compare_Other.r19 : List DOp := [
  ⟨some 60, .faddr 1 (.tmp 4), none, []⟩,
  ⟨some 61, .load 1 false (.tmp 60), none, []⟩,
  ⟨some 62, .bslice 1 1 [.int .i64 0] [(0, 1, .const (.int .i64 (-1)))], none, []⟩,
  ⟨some 63, .append 1 8 (.tmp 61) (.tmp 62), none, []⟩,
  ⟨some 64, .faddr 1 (.tmp 4), none, []⟩,
  ⟨none, .store 1 (.tmp 64) (.tmp 63), none, []⟩]
def F.compare_Other.r20 : List DOp := [
  ⟨some 65, .bin .add (.tmp 24) (.const (.int .i64 1)), none, []⟩,
  ⟨some 24, .mv (.tmp 65), none, []⟩]
def F.compare_Other.L0 : ACode := .seq (.region F.compare_Other.r6) (.seq (.cond (.tmp 25) (.skip) (.exit 0)) (.seq (.block 1 (.seq (.region F.compare_Other.r7) (.seq (.region F.compare_Other.r8) (.seq (.seq (.region F.compare_Other.r9) (.block 2 (.loop F.compare_Other.L1))) (.seq (.region F.compare_Other.r16) (.seq (.region F.compare_Other.r17) (.cond (.tmp 54) (.region F.compare_Other.r18) (.region F.compare_Other.r19)))))))) (.region F.compare_Other.r20)))
def F.compare_Other.r21 : List DOp := [
  ⟨some 10, .mv (.const (.slice none 0 0)), none, []⟩]
def F.compare_Other.r22 : List DOp := [
  ⟨some 66, .faddr 2 (.tmp 1), none, []⟩,
  ⟨some 67, .load 1 false (.tmp 66), none, []⟩,
  ⟨some 68, .idxs 1 (.tmp 67) (.const (.int .i64 0)), none, []⟩,
  ⟨some 69, .load 1 false (.tmp 68), none, []⟩,
  ⟨some 70, .len (.tmp 69), none, []⟩,
  ⟨some 71, .mv (.const (.int .i64 0)), none, []⟩]
def F.compare_Other.r23 : List DOp := [
  ⟨some 72, .bin .lss (.tmp 71) (.tmp 70), none, []⟩]
def F.compare_Other.r24 : List DOp := [
  ⟨some 73, .mv (.tmp 10), none, []⟩,
  ⟨some 74, .mv (.tmp 3), none, []⟩,
  ⟨some 75, .bslice 1 1 [.int .i64 0] [(0, 1, .tmp 74)], none, []⟩,
  ⟨some 76, .append 1 8 (.tmp 73) (.tmp 75), none, []⟩,
  ⟨some 10, .mv (.tmp 76), none, []⟩]
def F.compare_Other.r25 : List DOp := [
  ⟨some 77, .bin .add (.tmp 71) (.const (.int .i64 1)), none, []⟩,
  ⟨some 71, .mv (.tmp 77), none, []⟩]
def F.compare_Other.L2 : ACode := .seq (.region F.compare_Other.r23) (.seq (.cond (.tmp 72) (.skip) (.exit 4)) (.seq (.block 5 (.region F.compare_Other.r24)) (.region F.compare_Other.r25)))
def F.compare_Other.r26 : List DOp := [
  ⟨some 78, .faddr 2 (.tmp 4), none, []⟩,
  ⟨some 79, .load 1 false (.tmp 78), none, []⟩,
  ⟨some 80, .mv (.tmp 10), none, []⟩,
  ⟨some 81, .bslice 1 1 [.slice none 0 0] [(0, 1, .tmp 80)], none, []⟩,
  ⟨some 82, .append 1 24 (.tmp 79) (.tmp 81), none, []⟩,
  ⟨some 83, .faddr 1 (.tmp 4), none, []⟩,
  ⟨some 84, .load 1 false (.tmp 83), none, []⟩,
  ⟨some 85, .bslice 1 1 [.int .i64 0] [(0, 1, .const (.int .i64 0))], none, []⟩,
  ⟨some 86, .append 1 8 (.tmp 84) (.tmp 85), none, []⟩,
  ⟨some 87, .faddr 2 (.tmp 4), none, []⟩,
  ⟨none, .store 1 (.tmp 87) (.tmp 82), none, []⟩,
  ⟨some 88, .faddr 1 (.tmp 4), none, []⟩,
  ⟨none, .store 1 (.tmp 88) (.tmp 86), none, []⟩]
def F.compare_Other.r27 : List DOp := [
  ⟨some 89, .load 3 true (.tmp 4), none, []⟩,
  ⟨none, .store 3 (.tmp 2) (.tmp 89), none, []⟩]
def F.compare_Other.c : ACode := .seq (.region F.compare_Other.r0) (.seq (.seq (.region F.compare_Other.r1) (.cond (.tmp 13) (.seq (.region F.compare_Other.r2) (.ret)) (.skip))) (.seq (.region F.compare_Other.r3) (.seq (.region F.compare_Other.r4) (.seq (.seq (.region F.compare_Other.r5) (.block 0 (.loop F.compare_Other.L0))) (.seq (.region F.compare_Other.r21) (.seq (.seq (.region F.compare_Other.r22) (.block 4 (.loop F.compare_Other.L2))) (.seq (.draw F.compare_Other.r26 [(6, 4)]) (.seq (.region F.compare_Other.r27) (.ret)))))))))
def F.compare_Other : AFunc := ⟨F.compare_Other.c, [.cell 2 3 true]⟩
end Go.Proofs.Ytbehlbabgomhfaa
