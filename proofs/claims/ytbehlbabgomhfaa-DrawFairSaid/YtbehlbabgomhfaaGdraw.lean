/- The abstract code of package draw, written by wip/tools/gen.py from the translation. -/
import Derived.Test.YtbehlbabgomhfaaI
namespace Go.Proofs.Ytbehlbabgomhfaa
open Go Go.Ab
/-! parlance/draw.Number -/
def F.draw_Number.r0 : List DOp := [
  ⟨some 4, .mv (.const (.int .i64 0)), none, []⟩,
  ⟨some 5, .mv (.const (.int .i64 0)), none, []⟩,
  ⟨some 6, .mv (.const (.int .i64 0)), none, []⟩]
def F.draw_Number.r1 : List DOp := [
  ⟨some 12, .mv (.tmp 0), none, []⟩,
  ⟨some 13, .bin .lss (.tmp 12) (.const (.int .i64 1)), none, []⟩,
  ⟨some 14, .mv (.tmp 13), none, []⟩,
  ⟨some 15, .mv (.tmp 0), (some (14, false)), []⟩,
  ⟨some 16, .bin .gtr (.tmp 15) (.const (.int .i64 1000000000)), (some (14, false)), []⟩,
  ⟨some 17, .pick (.tmp 14) (.const (.bool true)) (.tmp 16), none, []⟩]
def F.draw_Number.r2 : List DOp := [
  ⟨some 4, .mv (.const (.int .i64 0)), none, []⟩,
  ⟨some 5, .mv (.const (.int .i64 0)), none, []⟩,
  ⟨some 6, .mv (.const (.int .i64 1)), none, []⟩]
def F.draw_Number.r3 : List DOp := [
  ⟨some 7, .mv (.const (.int .i64 0)), none, []⟩]
def F.draw_Number.r4 : List DOp := [
  ⟨some 18, .mv (.tmp 7), none, []⟩,
  ⟨some 19, .bin .shl (.const (.int .i64 1)) (.tmp 18), none, []⟩,
  ⟨some 20, .mv (.tmp 0), none, []⟩,
  ⟨some 21, .bin .lss (.tmp 19) (.tmp 20), none, []⟩]
def F.draw_Number.r5 : List DOp := [
  ⟨some 22, .mv (.tmp 7), none, []⟩,
  ⟨some 23, .bin .add (.tmp 22) (.const (.int .i64 1)), none, []⟩,
  ⟨some 7, .mv (.tmp 23), none, []⟩]
def F.draw_Number.L0 : ACode := .seq (.seq (.region F.draw_Number.r4) (.cond (.tmp 21) (.skip) (.exit 0))) (.block 1 (.region F.draw_Number.r5))
def F.draw_Number.r6 : List DOp := [
  ⟨some 8, .mv (.const (.int .i64 0)), none, []⟩]
def F.draw_Number.r7 : List DOp := [
  ⟨some 24, .mv (.tmp 8), none, []⟩,
  ⟨some 25, .mv (.tmp 7), none, []⟩,
  ⟨some 26, .bin .add (.tmp 24) (.tmp 25), none, []⟩,
  ⟨some 27, .mv (.tmp 1), none, []⟩,
  ⟨some 28, .len (.tmp 27), none, []⟩,
  ⟨some 29, .bin .leq (.tmp 26) (.tmp 28), none, []⟩]
def F.draw_Number.r8 : List DOp := [
  ⟨some 9, .mv (.const (.int .i64 0)), none, []⟩]
def F.draw_Number.r9 : List DOp := [
  ⟨some 30, .mv (.tmp 1), none, []⟩,
  ⟨some 31, .mv (.tmp 8), none, []⟩,
  ⟨some 32, .mv (.tmp 8), none, []⟩,
  ⟨some 33, .mv (.tmp 7), none, []⟩,
  ⟨some 34, .bin .add (.tmp 32) (.tmp 33), none, []⟩,
  ⟨some 35, .slice 1 (.tmp 30) (some (.tmp 31)) (some (.tmp 34)), none, []⟩,
  ⟨some 36, .len (.tmp 35), none, []⟩,
  ⟨some 37, .mv (.const (.int .i64 0)), none, []⟩]
def F.draw_Number.r10 : List DOp := [
  ⟨some 38, .bin .lss (.tmp 37) (.tmp 36), none, []⟩]
def F.draw_Number.r11 : List DOp := [
  ⟨some 39, .idxs 1 (.tmp 35) (.tmp 37), none, []⟩,
  ⟨some 40, .load 1 false (.tmp 39), none, []⟩,
  ⟨some 11, .mv (.tmp 40), none, []⟩]
def F.draw_Number.r12 : List DOp := [
  ⟨some 41, .mv (.tmp 9), none, []⟩,
  ⟨some 42, .bin .mul (.tmp 41) (.const (.int .i64 2)), none, []⟩,
  ⟨some 9, .mv (.tmp 42), none, []⟩]
def F.draw_Number.r13 : List DOp := [
  ⟨some 43, .mv (.tmp 11), none, []⟩]
def F.draw_Number.r14 : List DOp := [
  ⟨some 44, .mv (.tmp 9), none, []⟩,
  ⟨some 45, .bin .add (.tmp 44) (.const (.int .i64 1)), none, []⟩,
  ⟨some 9, .mv (.tmp 45), none, []⟩]
def F.draw_Number.r15 : List DOp := [
  ⟨some 46, .bin .add (.tmp 37) (.const (.int .i64 1)), none, []⟩,
  ⟨some 37, .mv (.tmp 46), none, []⟩]
def F.draw_Number.L2 : ACode := .seq (.region F.draw_Number.r10) (.seq (.cond (.tmp 38) (.skip) (.exit 4)) (.seq (.block 5 (.seq (.region F.draw_Number.r11) (.seq (.region F.draw_Number.r12) (.seq (.region F.draw_Number.r13) (.cond (.tmp 43) (.region F.draw_Number.r14) (.skip)))))) (.region F.draw_Number.r15)))
def F.draw_Number.r16 : List DOp := [
  ⟨some 47, .mv (.tmp 8), none, []⟩,
  ⟨some 48, .mv (.tmp 7), none, []⟩,
  ⟨some 49, .bin .add (.tmp 47) (.tmp 48), none, []⟩,
  ⟨some 8, .mv (.tmp 49), none, []⟩]
def F.draw_Number.r17 : List DOp := [
  ⟨some 50, .mv (.tmp 9), none, []⟩,
  ⟨some 51, .mv (.tmp 0), none, []⟩,
  ⟨some 52, .bin .lss (.tmp 50) (.tmp 51), none, []⟩]
def F.draw_Number.r18 : List DOp := [
  ⟨some 53, .mv (.tmp 9), none, []⟩,
  ⟨some 54, .mv (.tmp 8), none, []⟩,
  ⟨some 4, .mv (.tmp 53), none, []⟩,
  ⟨some 5, .mv (.tmp 54), none, []⟩,
  ⟨some 6, .mv (.const (.int .i64 0)), none, []⟩]
def F.draw_Number.L1 : ACode := .seq (.seq (.region F.draw_Number.r7) (.cond (.tmp 29) (.skip) (.exit 2))) (.block 3 (.seq (.region F.draw_Number.r8) (.seq (.seq (.region F.draw_Number.r9) (.block 4 (.loop F.draw_Number.L2))) (.seq (.region F.draw_Number.r16) (.seq (.region F.draw_Number.r17) (.cond (.tmp 52) (.seq (.region F.draw_Number.r18) (.ret)) (.skip)))))))
def F.draw_Number.r19 : List DOp := [
  ⟨some 4, .mv (.const (.int .i64 0)), none, []⟩,
  ⟨some 5, .mv (.const (.int .i64 0)), none, []⟩,
  ⟨some 6, .mv (.const (.int .i64 5)), none, []⟩]
def F.draw_Number.c : ACode := .seq (.region F.draw_Number.r0) (.seq (.seq (.region F.draw_Number.r1) (.cond (.tmp 17) (.seq (.region F.draw_Number.r2) (.ret)) (.skip))) (.seq (.region F.draw_Number.r3) (.seq (.block 0 (.loop F.draw_Number.L0)) (.seq (.seq (.region F.draw_Number.r6) (.block 2 (.loop F.draw_Number.L1))) (.seq (.region F.draw_Number.r19) (.ret))))))
def F.draw_Number : AFunc := ⟨F.draw_Number.c, [.tmp 4, .tmp 5, .tmp 6]⟩
/-! parlance/draw.Pick -/
def F.draw_Pick.r0 : List DOp := [
  ⟨some 4, .mv (.const (.int .i64 0)), none, []⟩,
  ⟨some 5, .mv (.const (.int .i64 0)), none, []⟩,
  ⟨some 6, .mv (.const (.int .i64 0)), none, []⟩]
def F.draw_Pick.r1 : List DOp := [
  ⟨some 15, .mv (.tmp 0), none, []⟩,
  ⟨some 16, .len (.tmp 15), none, []⟩,
  ⟨some 17, .bin .gtr (.tmp 16) (.const (.int .i64 100)), none, []⟩]
def F.draw_Pick.r2 : List DOp := [
  ⟨some 4, .mv (.const (.int .i64 0)), none, []⟩,
  ⟨some 5, .mv (.const (.int .i64 0)), none, []⟩,
  ⟨some 6, .mv (.const (.int .i64 2)), none, []⟩]
def F.draw_Pick.r3 : List DOp := [
  ⟨some 7, .mv (.const (.int .i64 0)), none, []⟩]
def F.draw_Pick.r4 : List DOp := [
  ⟨some 18, .mv (.tmp 0), none, []⟩,
  ⟨some 19, .len (.tmp 18), none, []⟩,
  ⟨some 20, .mv (.const (.int .i64 0)), none, []⟩]
def F.draw_Pick.r5 : List DOp := [
  ⟨some 21, .bin .lss (.tmp 20) (.tmp 19), none, []⟩]
def F.draw_Pick.r6 : List DOp := [
  ⟨some 22, .idxs 1 (.tmp 18) (.tmp 20), none, []⟩,
  ⟨some 23, .load 1 false (.tmp 22), none, []⟩,
  ⟨some 9, .mv (.tmp 23), none, []⟩]
def F.draw_Pick.r7 : List DOp := [
  ⟨some 24, .mv (.tmp 9), none, []⟩,
  ⟨some 25, .bin .lss (.tmp 24) (.const (.int .i64 0)), none, []⟩,
  ⟨some 26, .mv (.tmp 25), none, []⟩,
  ⟨some 27, .mv (.tmp 9), (some (26, false)), []⟩,
  ⟨some 28, .bin .gtr (.tmp 27) (.const (.int .i64 1000000)), (some (26, false)), []⟩,
  ⟨some 29, .pick (.tmp 26) (.const (.bool true)) (.tmp 28), none, []⟩]
def F.draw_Pick.r8 : List DOp := [
  ⟨some 4, .mv (.const (.int .i64 0)), none, []⟩,
  ⟨some 5, .mv (.const (.int .i64 0)), none, []⟩,
  ⟨some 6, .mv (.const (.int .i64 1)), none, []⟩]
def F.draw_Pick.r9 : List DOp := [
  ⟨some 30, .mv (.tmp 7), none, []⟩,
  ⟨some 31, .mv (.tmp 9), none, []⟩,
  ⟨some 32, .bin .add (.tmp 30) (.tmp 31), none, []⟩,
  ⟨some 7, .mv (.tmp 32), none, []⟩]
def F.draw_Pick.r10 : List DOp := [
  ⟨some 33, .bin .add (.tmp 20) (.const (.int .i64 1)), none, []⟩,
  ⟨some 20, .mv (.tmp 33), none, []⟩]
def F.draw_Pick.L0 : ACode := .seq (.region F.draw_Pick.r5) (.seq (.cond (.tmp 21) (.skip) (.exit 0)) (.seq (.block 1 (.seq (.region F.draw_Pick.r6) (.seq (.seq (.region F.draw_Pick.r7) (.cond (.tmp 29) (.seq (.region F.draw_Pick.r8) (.ret)) (.skip))) (.region F.draw_Pick.r9)))) (.region F.draw_Pick.r10)))
def F.draw_Pick.r11 : List DOp := [
  ⟨some 34, .mv (.tmp 7), none, []⟩,
  ⟨some 35, .bin .eql (.tmp 34) (.const (.int .i64 0)), none, []⟩]
def F.draw_Pick.r12 : List DOp := [
  ⟨some 4, .mv (.const (.int .i64 0)), none, []⟩,
  ⟨some 5, .mv (.const (.int .i64 0)), none, []⟩,
  ⟨some 6, .mv (.const (.int .i64 1)), none, []⟩]
def F.draw_Pick.r13 : List DOp := [
  ⟨some 37, .mv (.tmp 7), none, []⟩,
  ⟨some 38, .mv (.tmp 1), none, []⟩,
  ⟨some 39, .call I.draw_Number [.tmp 37, .tmp 38], none, []⟩,
  ⟨some 36, .mv (.tmp 39), none, []⟩,
  ⟨some 40, .extract (.tmp 36) 0, none, []⟩,
  ⟨some 41, .extract (.tmp 36) 1, none, []⟩,
  ⟨some 42, .extract (.tmp 36) 2, none, []⟩,
  ⟨some 10, .mv (.tmp 40), none, []⟩,
  ⟨some 11, .mv (.tmp 41), none, []⟩,
  ⟨some 12, .mv (.tmp 42), none, []⟩]
def F.draw_Pick.r14 : List DOp := [
  ⟨some 43, .mv (.tmp 12), none, []⟩,
  ⟨some 44, .bin .neq (.tmp 43) (.const (.int .i64 0)), none, []⟩]
def F.draw_Pick.r15 : List DOp := [
  ⟨some 45, .mv (.tmp 12), none, []⟩,
  ⟨some 4, .mv (.const (.int .i64 0)), none, []⟩,
  ⟨some 5, .mv (.const (.int .i64 0)), none, []⟩,
  ⟨some 6, .mv (.tmp 45), none, []⟩]
def F.draw_Pick.r16 : List DOp := [
  ⟨some 46, .mv (.tmp 0), none, []⟩,
  ⟨some 47, .len (.tmp 46), none, []⟩,
  ⟨some 48, .mv (.const (.int .i64 0)), none, []⟩]
def F.draw_Pick.r17 : List DOp := [
  ⟨some 49, .bin .lss (.tmp 48) (.tmp 47), none, []⟩]
def F.draw_Pick.r18 : List DOp := [
  ⟨some 50, .mv (.tmp 48), none, []⟩,
  ⟨some 51, .idxs 1 (.tmp 46) (.tmp 48), none, []⟩,
  ⟨some 52, .load 1 false (.tmp 51), none, []⟩,
  ⟨some 13, .mv (.tmp 50), none, []⟩,
  ⟨some 14, .mv (.tmp 52), none, []⟩]
def F.draw_Pick.r19 : List DOp := [
  ⟨some 53, .mv (.tmp 10), none, []⟩,
  ⟨some 54, .mv (.tmp 14), none, []⟩,
  ⟨some 55, .bin .lss (.tmp 53) (.tmp 54), none, []⟩]
def F.draw_Pick.r20 : List DOp := [
  ⟨some 56, .mv (.tmp 13), none, []⟩,
  ⟨some 57, .mv (.tmp 11), none, []⟩,
  ⟨some 4, .mv (.tmp 56), none, []⟩,
  ⟨some 5, .mv (.tmp 57), none, []⟩,
  ⟨some 6, .mv (.const (.int .i64 0)), none, []⟩]
def F.draw_Pick.r21 : List DOp := [
  ⟨some 58, .mv (.tmp 10), none, []⟩,
  ⟨some 59, .mv (.tmp 14), none, []⟩,
  ⟨some 60, .bin .sub (.tmp 58) (.tmp 59), none, []⟩,
  ⟨some 10, .mv (.tmp 60), none, []⟩]
def F.draw_Pick.r22 : List DOp := [
  ⟨some 61, .bin .add (.tmp 48) (.const (.int .i64 1)), none, []⟩,
  ⟨some 48, .mv (.tmp 61), none, []⟩]
def F.draw_Pick.L1 : ACode := .seq (.region F.draw_Pick.r17) (.seq (.cond (.tmp 49) (.skip) (.exit 2)) (.seq (.block 3 (.seq (.region F.draw_Pick.r18) (.seq (.seq (.region F.draw_Pick.r19) (.cond (.tmp 55) (.seq (.region F.draw_Pick.r20) (.ret)) (.skip))) (.region F.draw_Pick.r21)))) (.region F.draw_Pick.r22)))
def F.draw_Pick.r23 : List DOp := [
  ⟨some 4, .mv (.const (.int .i64 0)), none, []⟩,
  ⟨some 5, .mv (.const (.int .i64 0)), none, []⟩,
  ⟨some 6, .mv (.const (.int .i64 5)), none, []⟩]
def F.draw_Pick.c : ACode := .seq (.region F.draw_Pick.r0) (.seq (.seq (.region F.draw_Pick.r1) (.cond (.tmp 17) (.seq (.region F.draw_Pick.r2) (.ret)) (.skip))) (.seq (.region F.draw_Pick.r3) (.seq (.seq (.region F.draw_Pick.r4) (.block 0 (.loop F.draw_Pick.L0))) (.seq (.seq (.region F.draw_Pick.r11) (.cond (.tmp 35) (.seq (.region F.draw_Pick.r12) (.ret)) (.skip))) (.seq (.region F.draw_Pick.r13) (.seq (.seq (.region F.draw_Pick.r14) (.cond (.tmp 44) (.seq (.region F.draw_Pick.r15) (.ret)) (.skip))) (.seq (.seq (.region F.draw_Pick.r16) (.block 2 (.loop F.draw_Pick.L1))) (.seq (.region F.draw_Pick.r23) (.ret)))))))))
def F.draw_Pick : AFunc := ⟨F.draw_Pick.c, [.tmp 4, .tmp 5, .tmp 6]⟩
/-! parlance/draw.Order -/
def F.draw_Order.r0 : List DOp := [
  ⟨some 4, .mv (.const (.slice none 0 0)), none, []⟩,
  ⟨some 5, .mv (.const (.int .i64 0)), none, []⟩,
  ⟨some 6, .mv (.const (.int .i64 0)), none, []⟩]
def F.draw_Order.r1 : List DOp := [
  ⟨some 14, .mv (.tmp 0), none, []⟩,
  ⟨some 15, .bin .lss (.tmp 14) (.const (.int .i64 0)), none, []⟩,
  ⟨some 16, .mv (.tmp 15), none, []⟩,
  ⟨some 17, .mv (.tmp 0), (some (16, false)), []⟩,
  ⟨some 18, .bin .gtr (.tmp 17) (.const (.int .i64 100)), (some (16, false)), []⟩,
  ⟨some 19, .pick (.tmp 16) (.const (.bool true)) (.tmp 18), none, []⟩]
def F.draw_Order.r2 : List DOp := [
  ⟨some 4, .mv (.const (.slice none 0 0)), none, []⟩,
  ⟨some 5, .mv (.const (.int .i64 0)), none, []⟩,
  ⟨some 6, .mv (.const (.int .i64 1)), none, []⟩]
def F.draw_Order.r3 : List DOp := [
  ⟨some 7, .mv (.const (.slice none 0 0)), none, []⟩,
  ⟨some 8, .mv (.const (.slice none 0 0)), none, []⟩]
def F.draw_Order.r4 : List DOp := [
  ⟨some 20, .mv (.tmp 0), none, []⟩,
  ⟨some 21, .mv (.const (.int .i64 0)), none, []⟩]
def F.draw_Order.r5 : List DOp := [
  ⟨some 22, .bin .lss (.tmp 21) (.tmp 20), none, []⟩]
def F.draw_Order.r6 : List DOp := [
  ⟨some 23, .mv (.tmp 21), none, []⟩,
  ⟨some 9, .mv (.tmp 23), none, []⟩]
def F.draw_Order.r7 : List DOp := [
  ⟨some 24, .mv (.tmp 7), none, []⟩,
  ⟨some 25, .mv (.tmp 9), none, []⟩,
  ⟨some 26, .bslice 1 1 [.int .i64 0] [(0, 1, .tmp 25)], none, []⟩,
  ⟨some 27, .append 1 8 (.tmp 24) (.tmp 26), none, []⟩,
  ⟨some 7, .mv (.tmp 27), none, []⟩]
def F.draw_Order.r8 : List DOp := [
  ⟨some 28, .bin .add (.tmp 21) (.const (.int .i64 1)), none, []⟩,
  ⟨some 21, .mv (.tmp 28), none, []⟩]
def F.draw_Order.L0 : ACode := .seq (.region F.draw_Order.r5) (.seq (.cond (.tmp 22) (.skip) (.exit 0)) (.seq (.block 1 (.seq (.region F.draw_Order.r6) (.region F.draw_Order.r7))) (.region F.draw_Order.r8)))
def F.draw_Order.r9 : List DOp := [
  ⟨some 10, .mv (.const (.int .i64 0)), none, []⟩]
def F.draw_Order.r10 : List DOp := [
  ⟨some 29, .mv (.tmp 7), none, []⟩,
  ⟨some 30, .len (.tmp 29), none, []⟩,
  ⟨some 31, .bin .gtr (.tmp 30) (.const (.int .i64 0)), none, []⟩]
def F.draw_Order.r11 : List DOp := [
  ⟨some 33, .mv (.tmp 7), none, []⟩,
  ⟨some 34, .len (.tmp 33), none, []⟩,
  ⟨some 35, .mv (.tmp 1), none, []⟩,
  ⟨some 36, .mv (.tmp 10), none, []⟩,
  ⟨some 37, .slice 1 (.tmp 35) (some (.tmp 36)) none, none, []⟩,
  ⟨some 38, .call I.draw_Number [.tmp 34, .tmp 37], none, []⟩,
  ⟨some 32, .mv (.tmp 38), none, []⟩,
  ⟨some 39, .extract (.tmp 32) 0, none, []⟩,
  ⟨some 40, .extract (.tmp 32) 1, none, []⟩,
  ⟨some 41, .extract (.tmp 32) 2, none, []⟩,
  ⟨some 11, .mv (.tmp 39), none, []⟩,
  ⟨some 12, .mv (.tmp 40), none, []⟩,
  ⟨some 13, .mv (.tmp 41), none, []⟩]
def F.draw_Order.r12 : List DOp := [
  ⟨some 42, .mv (.tmp 13), none, []⟩,
  ⟨some 43, .bin .neq (.tmp 42) (.const (.int .i64 0)), none, []⟩]
def F.draw_Order.r13 : List DOp := [
  ⟨some 44, .mv (.tmp 13), none, []⟩,
  ⟨some 4, .mv (.const (.slice none 0 0)), none, []⟩,
  ⟨some 5, .mv (.const (.int .i64 0)), none, []⟩,
  ⟨some 6, .mv (.tmp 44), none, []⟩]
def F.draw_Order.r14 : List DOp := [
  ⟨some 45, .mv (.tmp 10), none, []⟩,
  ⟨some 46, .mv (.tmp 12), none, []⟩,
  ⟨some 47, .bin .add (.tmp 45) (.tmp 46), none, []⟩,
  ⟨some 10, .mv (.tmp 47), none, []⟩]
def F.draw_Order.r15 : List DOp := [
  ⟨some 48, .mv (.tmp 8), none, []⟩,
  ⟨some 49, .mv (.tmp 7), none, []⟩,
  ⟨some 50, .mv (.tmp 11), none, []⟩,
  ⟨some 51, .idxs 1 (.tmp 49) (.tmp 50), none, []⟩,
  ⟨some 52, .load 1 false (.tmp 51), none, []⟩,
  ⟨some 53, .bslice 1 1 [.int .i64 0] [(0, 1, .tmp 52)], none, []⟩,
  ⟨some 54, .append 1 8 (.tmp 48) (.tmp 53), none, []⟩,
  ⟨some 8, .mv (.tmp 54), none, []⟩]
def F.draw_Order.r16 : List DOp := [
  ⟨some 55, .mv (.tmp 7), none, []⟩,
  ⟨some 56, .mv (.tmp 11), none, []⟩,
  ⟨some 57, .slice 1 (.tmp 55) none (some (.tmp 56)), none, []⟩,
  ⟨some 58, .mv (.tmp 7), none, []⟩,
  ⟨some 59, .mv (.tmp 11), none, []⟩,
  ⟨some 60, .bin .add (.tmp 59) (.const (.int .i64 1)), none, []⟩,
  ⟨some 61, .slice 1 (.tmp 58) (some (.tmp 60)) none, none, []⟩,
  ⟨some 62, .append 1 8 (.tmp 57) (.tmp 61), none, []⟩,
  ⟨some 7, .mv (.tmp 62), none, []⟩]
def F.draw_Order.L1 : ACode := .seq (.seq (.region F.draw_Order.r10) (.cond (.tmp 31) (.skip) (.exit 2))) (.block 3 (.seq (.region F.draw_Order.r11) (.seq (.seq (.region F.draw_Order.r12) (.cond (.tmp 43) (.seq (.region F.draw_Order.r13) (.ret)) (.skip))) (.seq (.region F.draw_Order.r14) (.seq (.region F.draw_Order.r15) (.draw F.draw_Order.r16 []))))))
def F.draw_Order.r17 : List DOp := [
  ⟨some 63, .mv (.tmp 8), none, []⟩,
  ⟨some 64, .mv (.tmp 10), none, []⟩,
  ⟨some 4, .mv (.tmp 63), none, []⟩,
  ⟨some 5, .mv (.tmp 64), none, []⟩,
  ⟨some 6, .mv (.const (.int .i64 0)), none, []⟩]
def F.draw_Order.c : ACode := .seq (.region F.draw_Order.r0) (.seq (.seq (.region F.draw_Order.r1) (.cond (.tmp 19) (.seq (.region F.draw_Order.r2) (.ret)) (.skip))) (.seq (.region F.draw_Order.r3) (.seq (.seq (.region F.draw_Order.r4) (.block 0 (.loop F.draw_Order.L0))) (.seq (.region F.draw_Order.r9) (.seq (.block 2 (.loop F.draw_Order.L1)) (.seq (.region F.draw_Order.r17) (.ret)))))))
def F.draw_Order : AFunc := ⟨F.draw_Order.c, [.tmp 4, .tmp 5, .tmp 6]⟩
end Go.Proofs.Ytbehlbabgomhfaa
