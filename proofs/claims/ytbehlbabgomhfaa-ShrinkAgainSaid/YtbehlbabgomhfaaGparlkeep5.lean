/- The abstract code of package parlkeep5, written by wip/tools/gen.py from the translation. -/
import Derived.Test.YtbehlbabgomhfaaI
namespace Go.Proofs.Ytbehlbabgomhfaa
open Go Go.Ab
/-! parlance/parlkeep5.DrawMore -/
def F.parlkeep5_DrawMore.r0 : List DOp := [
  ⟨some 6, .mv (.const (.bool false)), none, []⟩]
def F.parlkeep5_DrawMore.r1 : List DOp := [
  ⟨some 19, .mv (.tmp 0), none, []⟩,
  ⟨some 20, .call I.parlkeep5_below [.tmp 19, .const (.int .i64 100)], none, []⟩,
  ⟨some 21, .bin .add (.const (.int .i64 1)) (.tmp 20), none, []⟩,
  ⟨some 0, .mv (.tmp 21), none, []⟩]
def F.parlkeep5_DrawMore.r2 : List DOp := [
  ⟨some 23, .bslice 1 1 [.bool false] [(0, 1, .const (.bool true))], none, []⟩,
  ⟨some 24, .call I.draw_Number [.const (.int .i64 2), .tmp 23], none, []⟩,
  ⟨some 22, .mv (.tmp 24), none, []⟩,
  ⟨some 25, .extract (.tmp 22) 0, none, []⟩,
  ⟨some 26, .extract (.tmp 22) 1, none, []⟩,
  ⟨some 27, .extract (.tmp 22) 2, none, []⟩,
  ⟨some 7, .mv (.tmp 25), none, []⟩,
  ⟨some 8, .mv (.tmp 26), none, []⟩,
  ⟨some 9, .mv (.tmp 27), none, []⟩]
def F.parlkeep5_DrawMore.r3 : List DOp := [
  ⟨some 28, .mv (.tmp 7), none, []⟩,
  ⟨some 29, .bin .neq (.tmp 28) (.const (.int .i64 1)), none, []⟩,
  ⟨some 30, .mv (.tmp 29), none, []⟩,
  ⟨some 31, .mv (.tmp 9), (some (30, false)), []⟩,
  ⟨some 32, .bin .neq (.tmp 31) (.const (.int .i64 0)), (some (30, false)), []⟩,
  ⟨some 33, .pick (.tmp 30) (.const (.bool true)) (.tmp 32), none, []⟩]
def F.parlkeep5_DrawMore.r4 : List DOp := [
  ⟨some 6, .mv (.const (.bool false)), none, []⟩]
def F.parlkeep5_DrawMore.r5 : List DOp := [
  ⟨some 35, .mv (.tmp 0), none, []⟩,
  ⟨some 36, .mv (.tmp 1), none, []⟩,
  ⟨some 37, .call I.draw_Number [.tmp 35, .tmp 36], none, []⟩,
  ⟨some 34, .mv (.tmp 37), none, []⟩,
  ⟨some 38, .extract (.tmp 34) 0, none, []⟩,
  ⟨some 39, .extract (.tmp 34) 1, none, []⟩,
  ⟨some 40, .extract (.tmp 34) 2, none, []⟩,
  ⟨some 10, .mv (.tmp 38), none, []⟩,
  ⟨some 11, .mv (.tmp 39), none, []⟩,
  ⟨some 12, .mv (.tmp 40), none, []⟩]
def F.parlkeep5_DrawMore.r6 : List DOp := [
  ⟨some 41, .mv (.tmp 12), none, []⟩,
  ⟨some 42, .bin .neq (.tmp 41) (.const (.int .i64 0)), none, []⟩]
def F.parlkeep5_DrawMore.r7 : List DOp := [
  ⟨some 43, .mv (.tmp 12), none, []⟩,
  ⟨some 44, .bin .eql (.tmp 43) (.const (.int .i64 5)), none, []⟩,
  ⟨some 45, .mv (.tmp 44), none, []⟩,
  ⟨some 46, .mv (.tmp 11), (some (45, true)), []⟩,
  ⟨some 47, .bin .eql (.tmp 46) (.const (.int .i64 0)), (some (45, true)), []⟩,
  ⟨some 48, .pick (.tmp 45) (.tmp 47) (.const (.bool false)), none, []⟩,
  ⟨some 6, .mv (.tmp 48), none, []⟩]
def F.parlkeep5_DrawMore.r8 : List DOp := [
  ⟨some 49, .mv (.tmp 11), none, []⟩,
  ⟨some 50, .bin .lss (.tmp 49) (.const (.int .i64 0)), none, []⟩,
  ⟨some 51, .mv (.tmp 50), none, []⟩,
  ⟨some 52, .mv (.tmp 11), (some (51, false)), []⟩,
  ⟨some 53, .mv (.tmp 1), (some (51, false)), []⟩,
  ⟨some 54, .len (.tmp 53), (some (51, false)), []⟩,
  ⟨some 55, .bin .gtr (.tmp 52) (.tmp 54), (some (51, false)), []⟩,
  ⟨some 56, .pick (.tmp 51) (.const (.bool true)) (.tmp 55), none, []⟩]
def F.parlkeep5_DrawMore.r9 : List DOp := [
  ⟨some 6, .mv (.const (.bool false)), none, []⟩]
def F.parlkeep5_DrawMore.r10 : List DOp := [
  ⟨some 58, .mv (.tmp 0), none, []⟩,
  ⟨some 59, .mv (.tmp 1), none, []⟩,
  ⟨some 60, .mv (.tmp 11), none, []⟩,
  ⟨some 61, .slice 1 (.tmp 59) none (some (.tmp 60)), none, []⟩,
  ⟨some 62, .mv (.tmp 2), none, []⟩,
  ⟨some 63, .bslice 1 2 [.slice none 0 0, .slice none 0 0] [(0, 1, .tmp 61), (1, 1, .tmp 62)], none, []⟩,
  ⟨some 64, .call I.slices_Concat_bool_bool [.tmp 63], none, []⟩,
  ⟨some 65, .call I.draw_Number [.tmp 58, .tmp 64], none, []⟩,
  ⟨some 57, .mv (.tmp 65), none, []⟩,
  ⟨some 66, .extract (.tmp 57) 0, none, []⟩,
  ⟨some 67, .extract (.tmp 57) 1, none, []⟩,
  ⟨some 68, .extract (.tmp 57) 2, none, []⟩,
  ⟨some 13, .mv (.tmp 66), none, []⟩,
  ⟨some 14, .mv (.tmp 67), none, []⟩,
  ⟨some 15, .mv (.tmp 68), none, []⟩]
def F.parlkeep5_DrawMore.r11 : List DOp := [
  ⟨some 69, .mv (.tmp 15), none, []⟩,
  ⟨some 70, .bin .neq (.tmp 69) (.const (.int .i64 0)), none, []⟩,
  ⟨some 71, .mv (.tmp 70), none, []⟩,
  ⟨some 72, .mv (.tmp 10), (some (71, false)), []⟩,
  ⟨some 73, .mv (.tmp 13), (some (71, false)), []⟩,
  ⟨some 74, .bin .neq (.tmp 72) (.tmp 73), (some (71, false)), []⟩,
  ⟨some 75, .pick (.tmp 71) (.const (.bool true)) (.tmp 74), none, []⟩,
  ⟨some 76, .mv (.tmp 75), none, []⟩,
  ⟨some 77, .mv (.tmp 14), (some (76, false)), []⟩,
  ⟨some 78, .mv (.tmp 11), (some (76, false)), []⟩,
  ⟨some 79, .bin .neq (.tmp 77) (.tmp 78), (some (76, false)), []⟩,
  ⟨some 80, .pick (.tmp 76) (.const (.bool true)) (.tmp 79), none, []⟩]
def F.parlkeep5_DrawMore.r12 : List DOp := [
  ⟨some 6, .mv (.const (.bool false)), none, []⟩]
def F.parlkeep5_DrawMore.r13 : List DOp := [
  ⟨some 81, .mv (.tmp 11), none, []⟩,
  ⟨some 82, .bin .eql (.tmp 81) (.const (.int .i64 0)), none, []⟩]
def F.parlkeep5_DrawMore.r14 : List DOp := [
  ⟨some 6, .mv (.const (.bool true)), none, []⟩]
def F.parlkeep5_DrawMore.r15 : List DOp := [
  ⟨some 84, .mv (.tmp 0), none, []⟩,
  ⟨some 85, .mv (.tmp 1), none, []⟩,
  ⟨some 86, .mv (.tmp 11), none, []⟩,
  ⟨some 87, .bin .sub (.tmp 86) (.const (.int .i64 1)), none, []⟩,
  ⟨some 88, .slice 1 (.tmp 85) none (some (.tmp 87)), none, []⟩,
  ⟨some 89, .call I.draw_Number [.tmp 84, .tmp 88], none, []⟩,
  ⟨some 83, .mv (.tmp 89), none, []⟩,
  ⟨some 90, .extract (.tmp 83) 0, none, []⟩,
  ⟨some 91, .extract (.tmp 83) 1, none, []⟩,
  ⟨some 92, .extract (.tmp 83) 2, none, []⟩,
  ⟨some 16, .mv (.tmp 90), none, []⟩,
  ⟨some 17, .mv (.tmp 91), none, []⟩,
  ⟨some 18, .mv (.tmp 92), none, []⟩]
def F.parlkeep5_DrawMore.r16 : List DOp := [
  ⟨some 93, .mv (.tmp 18), none, []⟩,
  ⟨some 94, .bin .eql (.tmp 93) (.const (.int .i64 5)), none, []⟩,
  ⟨some 6, .mv (.tmp 94), none, []⟩]
def F.parlkeep5_DrawMore.c : ACode := .seq (.region F.parlkeep5_DrawMore.r0) (.seq (.region F.parlkeep5_DrawMore.r1) (.seq (.seq (.region F.parlkeep5_DrawMore.r2) (.seq (.region F.parlkeep5_DrawMore.r3) (.cond (.tmp 33) (.seq (.region F.parlkeep5_DrawMore.r4) (.ret)) (.skip)))) (.seq (.region F.parlkeep5_DrawMore.r5) (.seq (.seq (.region F.parlkeep5_DrawMore.r6) (.cond (.tmp 42) (.seq (.region F.parlkeep5_DrawMore.r7) (.ret)) (.skip))) (.seq (.seq (.region F.parlkeep5_DrawMore.r8) (.cond (.tmp 56) (.seq (.region F.parlkeep5_DrawMore.r9) (.ret)) (.skip))) (.seq (.region F.parlkeep5_DrawMore.r10) (.seq (.seq (.region F.parlkeep5_DrawMore.r11) (.cond (.tmp 80) (.seq (.region F.parlkeep5_DrawMore.r12) (.ret)) (.skip))) (.seq (.seq (.region F.parlkeep5_DrawMore.r13) (.cond (.tmp 82) (.seq (.region F.parlkeep5_DrawMore.r14) (.ret)) (.skip))) (.seq (.region F.parlkeep5_DrawMore.r15) (.seq (.region F.parlkeep5_DrawMore.r16) (.ret)))))))))))
def F.parlkeep5_DrawMore : AFunc := ⟨F.parlkeep5_DrawMore.c, [.tmp 6]⟩
/-! parlance/parlkeep5.DrawFair -/
def F.parlkeep5_DrawFair.r0 : List DOp := [
  ⟨some 4, .mv (.const (.bool false)), none, []⟩]
def F.parlkeep5_DrawFair.r1 : List DOp := [
  ⟨some 14, .mv (.tmp 0), none, []⟩,
  ⟨some 15, .call I.parlkeep5_below [.tmp 14, .const (.int .i64 9)], none, []⟩,
  ⟨some 16, .bin .add (.const (.int .i64 1)) (.tmp 15), none, []⟩,
  ⟨some 17, .mv (.tmp 1), none, []⟩,
  ⟨some 18, .call I.parlkeep5_below [.tmp 17, .const (.int .i64 9)], none, []⟩,
  ⟨some 0, .mv (.tmp 16), none, []⟩,
  ⟨some 1, .mv (.tmp 18), none, []⟩]
def F.parlkeep5_DrawFair.r2 : List DOp := [
  ⟨some 20, .bslice 1 1 [.bool false] [(0, 1, .const (.bool true))], none, []⟩,
  ⟨some 21, .call I.draw_Number [.const (.int .i64 2), .tmp 20], none, []⟩,
  ⟨some 19, .mv (.tmp 21), none, []⟩,
  ⟨some 22, .extract (.tmp 19) 0, none, []⟩,
  ⟨some 23, .extract (.tmp 19) 1, none, []⟩,
  ⟨some 24, .extract (.tmp 19) 2, none, []⟩,
  ⟨some 5, .mv (.tmp 22), none, []⟩,
  ⟨some 6, .mv (.tmp 23), none, []⟩,
  ⟨some 7, .mv (.tmp 24), none, []⟩]
def F.parlkeep5_DrawFair.r3 : List DOp := [
  ⟨some 25, .mv (.tmp 5), none, []⟩,
  ⟨some 26, .bin .neq (.tmp 25) (.const (.int .i64 1)), none, []⟩,
  ⟨some 27, .mv (.tmp 26), none, []⟩,
  ⟨some 28, .mv (.tmp 7), (some (27, false)), []⟩,
  ⟨some 29, .bin .neq (.tmp 28) (.const (.int .i64 0)), (some (27, false)), []⟩,
  ⟨some 30, .pick (.tmp 27) (.const (.bool true)) (.tmp 29), none, []⟩]
def F.parlkeep5_DrawFair.r4 : List DOp := [
  ⟨some 4, .mv (.const (.bool false)), none, []⟩]
def F.parlkeep5_DrawFair.r5 : List DOp := [
  ⟨some 31, .mv (.tmp 0), none, []⟩,
  ⟨some 32, .mkslice 1 8 [.int .i64 0] (.tmp 31) (.tmp 31), none, []⟩,
  ⟨some 8, .mv (.tmp 32), none, []⟩]
def F.parlkeep5_DrawFair.r6 : List DOp := [
  ⟨some 33, .mv (.tmp 1), none, []⟩,
  ⟨some 34, .call I.parlkeep5_coins [.tmp 33], none, []⟩,
  ⟨some 35, .len (.tmp 34), none, []⟩,
  ⟨some 36, .mv (.const (.int .i64 0)), none, []⟩]
def F.parlkeep5_DrawFair.r7 : List DOp := [
  ⟨some 37, .bin .lss (.tmp 36) (.tmp 35), none, []⟩]
def F.parlkeep5_DrawFair.r8 : List DOp := [
  ⟨some 38, .idxs 1 (.tmp 34) (.tmp 36), none, []⟩,
  ⟨some 39, .load 1 false (.tmp 38), none, []⟩,
  ⟨some 10, .mv (.tmp 39), none, []⟩]
def F.parlkeep5_DrawFair.r9 : List DOp := [
  ⟨some 41, .mv (.tmp 0), none, []⟩,
  ⟨some 42, .mv (.tmp 10), none, []⟩,
  ⟨some 43, .call I.draw_Number [.tmp 41, .tmp 42], none, []⟩,
  ⟨some 40, .mv (.tmp 43), none, []⟩,
  ⟨some 44, .extract (.tmp 40) 0, none, []⟩,
  ⟨some 45, .extract (.tmp 40) 1, none, []⟩,
  ⟨some 46, .extract (.tmp 40) 2, none, []⟩,
  ⟨some 11, .mv (.tmp 44), none, []⟩,
  ⟨some 12, .mv (.tmp 45), none, []⟩,
  ⟨some 13, .mv (.tmp 46), none, []⟩]
def F.parlkeep5_DrawFair.r10 : List DOp := [
  ⟨some 47, .mv (.tmp 13), none, []⟩,
  ⟨some 48, .bin .eql (.tmp 47) (.const (.int .i64 0)), none, []⟩]
def F.parlkeep5_DrawFair.r11 : List DOp := [
  ⟨some 49, .mv (.tmp 11), none, []⟩,
  ⟨some 50, .bin .lss (.tmp 49) (.const (.int .i64 0)), none, []⟩,
  ⟨some 51, .mv (.tmp 50), none, []⟩,
  ⟨some 52, .mv (.tmp 11), (some (51, false)), []⟩,
  ⟨some 53, .mv (.tmp 0), (some (51, false)), []⟩,
  ⟨some 54, .bin .geq (.tmp 52) (.tmp 53), (some (51, false)), []⟩,
  ⟨some 55, .pick (.tmp 51) (.const (.bool true)) (.tmp 54), none, []⟩]
def F.parlkeep5_DrawFair.r12 : List DOp := [
  ⟨some 4, .mv (.const (.bool false)), none, []⟩]
def F.parlkeep5_DrawFair.r13 : List DOp := [
  ⟨some 56, .mv (.tmp 8), none, []⟩,
  ⟨some 57, .mv (.tmp 11), none, []⟩,
  ⟨some 58, .idxs 1 (.tmp 56) (.tmp 57), none, []⟩,
  ⟨some 59, .load 1 false (.tmp 58), none, []⟩,
  ⟨some 60, .bin .add (.tmp 59) (.const (.int .i64 1)), none, []⟩,
  ⟨some 61, .idxs 1 (.tmp 56) (.tmp 57), none, []⟩,
  ⟨none, .store 1 (.tmp 61) (.tmp 60), none, []⟩]
def F.parlkeep5_DrawFair.r14 : List DOp := [
  ⟨some 62, .bin .add (.tmp 36) (.const (.int .i64 1)), none, []⟩,
  ⟨some 36, .mv (.tmp 62), none, []⟩]
def F.parlkeep5_DrawFair.L0 : ACode := .seq (.region F.parlkeep5_DrawFair.r7) (.seq (.cond (.tmp 37) (.skip) (.exit 0)) (.seq (.block 1 (.seq (.region F.parlkeep5_DrawFair.r8) (.seq (.region F.parlkeep5_DrawFair.r9) (.seq (.region F.parlkeep5_DrawFair.r10) (.cond (.tmp 48) (.seq (.seq (.region F.parlkeep5_DrawFair.r11) (.cond (.tmp 55) (.seq (.region F.parlkeep5_DrawFair.r12) (.ret)) (.skip))) (.region F.parlkeep5_DrawFair.r13)) (.skip)))))) (.region F.parlkeep5_DrawFair.r14)))
def F.parlkeep5_DrawFair.r15 : List DOp := [
  ⟨some 63, .mv (.tmp 8), none, []⟩,
  ⟨some 64, .call I.slices_Min_int_int [.tmp 63], none, []⟩,
  ⟨some 65, .mv (.tmp 8), none, []⟩,
  ⟨some 66, .call I.slices_Max_int_int [.tmp 65], none, []⟩,
  ⟨some 67, .bin .eql (.tmp 64) (.tmp 66), none, []⟩,
  ⟨some 4, .mv (.tmp 67), none, []⟩]
def F.parlkeep5_DrawFair.c : ACode := .seq (.region F.parlkeep5_DrawFair.r0) (.seq (.region F.parlkeep5_DrawFair.r1) (.seq (.seq (.region F.parlkeep5_DrawFair.r2) (.seq (.region F.parlkeep5_DrawFair.r3) (.cond (.tmp 30) (.seq (.region F.parlkeep5_DrawFair.r4) (.ret)) (.skip)))) (.seq (.region F.parlkeep5_DrawFair.r5) (.seq (.seq (.region F.parlkeep5_DrawFair.r6) (.block 0 (.loop F.parlkeep5_DrawFair.L0))) (.seq (.region F.parlkeep5_DrawFair.r15) (.ret))))))
def F.parlkeep5_DrawFair : AFunc := ⟨F.parlkeep5_DrawFair.c, [.tmp 4]⟩
/-! parlance/parlkeep5.DrawWeighs -/
def F.parlkeep5_DrawWeighs.r0 : List DOp := [
  ⟨some 4, .mv (.const (.bool false)), none, []⟩]
def F.parlkeep5_DrawWeighs.r1 : List DOp := [
  ⟨some 5, .mv (.const (.slice none 0 0)), none, []⟩]
def F.parlkeep5_DrawWeighs.r2 : List DOp := [
  ⟨some 6, .mv (.const (.int .i64 0)), none, []⟩]
def F.parlkeep5_DrawWeighs.r3 : List DOp := [
  ⟨some 24, .mv (.tmp 0), none, []⟩,
  ⟨some 25, .len (.tmp 24), none, []⟩,
  ⟨some 26, .mv (.const (.int .i64 0)), none, []⟩]
def F.parlkeep5_DrawWeighs.r4 : List DOp := [
  ⟨some 27, .bin .lss (.tmp 26) (.tmp 25), none, []⟩]
def F.parlkeep5_DrawWeighs.r5 : List DOp := [
  ⟨some 28, .idxs 1 (.tmp 24) (.tmp 26), none, []⟩,
  ⟨some 29, .load 1 false (.tmp 28), none, []⟩,
  ⟨some 8, .mv (.tmp 29), none, []⟩]
def F.parlkeep5_DrawWeighs.r6 : List DOp := [
  ⟨some 30, .mv (.tmp 5), none, []⟩,
  ⟨some 31, .len (.tmp 30), none, []⟩,
  ⟨some 32, .bin .lss (.tmp 31) (.const (.int .i64 4)), none, []⟩]
def F.parlkeep5_DrawWeighs.r7 : List DOp := [
  ⟨some 33, .mv (.tmp 5), none, []⟩,
  ⟨some 34, .mv (.tmp 8), none, []⟩,
  ⟨some 35, .call I.parlkeep5_below [.tmp 34, .const (.int .i64 4)], none, []⟩,
  ⟨some 36, .bslice 1 1 [.int .i64 0] [(0, 1, .tmp 35)], none, []⟩,
  ⟨some 37, .append 1 8 (.tmp 33) (.tmp 36), none, []⟩,
  ⟨some 5, .mv (.tmp 37), none, []⟩]
def F.parlkeep5_DrawWeighs.r8 : List DOp := [
  ⟨some 38, .mv (.tmp 6), none, []⟩,
  ⟨some 39, .mv (.tmp 8), none, []⟩,
  ⟨some 40, .call I.parlkeep5_below [.tmp 39, .const (.int .i64 4)], none, []⟩,
  ⟨some 41, .bin .add (.tmp 38) (.tmp 40), none, []⟩,
  ⟨some 6, .mv (.tmp 41), none, []⟩]
def F.parlkeep5_DrawWeighs.r9 : List DOp := [
  ⟨some 42, .bin .add (.tmp 26) (.const (.int .i64 1)), none, []⟩,
  ⟨some 26, .mv (.tmp 42), none, []⟩]
def F.parlkeep5_DrawWeighs.L0 : ACode := .seq (.region F.parlkeep5_DrawWeighs.r4) (.seq (.cond (.tmp 27) (.skip) (.exit 0)) (.seq (.block 1 (.seq (.region F.parlkeep5_DrawWeighs.r5) (.seq (.region F.parlkeep5_DrawWeighs.r6) (.cond (.tmp 32) (.seq (.region F.parlkeep5_DrawWeighs.r7) (.region F.parlkeep5_DrawWeighs.r8)) (.skip))))) (.region F.parlkeep5_DrawWeighs.r9)))
def F.parlkeep5_DrawWeighs.r10 : List DOp := [
  ⟨some 44, .bslice 1 2 [.int .i64 0, .int .i64 0] [(0, 1, .const (.int .i64 0)), (1, 1, .const (.int .i64 1))], none, []⟩,
  ⟨some 45, .call I.draw_Pick [.tmp 44, .const (.slice none 0 0)], none, []⟩,
  ⟨some 43, .mv (.tmp 45), none, []⟩,
  ⟨some 46, .extract (.tmp 43) 0, none, []⟩,
  ⟨some 47, .extract (.tmp 43) 1, none, []⟩,
  ⟨some 48, .extract (.tmp 43) 2, none, []⟩,
  ⟨some 9, .mv (.tmp 46), none, []⟩,
  ⟨some 10, .mv (.tmp 47), none, []⟩,
  ⟨some 11, .mv (.tmp 48), none, []⟩]
def F.parlkeep5_DrawWeighs.r11 : List DOp := [
  ⟨some 49, .mv (.tmp 9), none, []⟩,
  ⟨some 50, .bin .neq (.tmp 49) (.const (.int .i64 1)), none, []⟩,
  ⟨some 51, .mv (.tmp 50), none, []⟩,
  ⟨some 52, .mv (.tmp 11), (some (51, false)), []⟩,
  ⟨some 53, .bin .neq (.tmp 52) (.const (.int .i64 0)), (some (51, false)), []⟩,
  ⟨some 54, .pick (.tmp 51) (.const (.bool true)) (.tmp 53), none, []⟩]
def F.parlkeep5_DrawWeighs.r12 : List DOp := [
  ⟨some 4, .mv (.const (.bool false)), none, []⟩]
def F.parlkeep5_DrawWeighs.r13 : List DOp := [
  ⟨some 55, .mv (.tmp 6), none, []⟩,
  ⟨some 56, .bin .eql (.tmp 55) (.const (.int .i64 0)), none, []⟩]
def F.parlkeep5_DrawWeighs.r14 : List DOp := [
  ⟨some 58, .mv (.tmp 5), none, []⟩,
  ⟨some 59, .mkslice 1 1 [.bool false] (.const (.int .i64 9)) (.const (.int .i64 9)), none, []⟩,
  ⟨some 60, .call I.draw_Pick [.tmp 58, .tmp 59], none, []⟩,
  ⟨some 57, .mv (.tmp 60), none, []⟩,
  ⟨some 61, .extract (.tmp 57) 0, none, []⟩,
  ⟨some 62, .extract (.tmp 57) 1, none, []⟩,
  ⟨some 63, .extract (.tmp 57) 2, none, []⟩,
  ⟨some 12, .mv (.tmp 61), none, []⟩,
  ⟨some 13, .mv (.tmp 62), none, []⟩,
  ⟨some 14, .mv (.tmp 63), none, []⟩]
def F.parlkeep5_DrawWeighs.r15 : List DOp := [
  ⟨some 64, .mv (.tmp 14), none, []⟩,
  ⟨some 65, .bin .eql (.tmp 64) (.const (.int .i64 1)), none, []⟩,
  ⟨some 4, .mv (.tmp 65), none, []⟩]
def F.parlkeep5_DrawWeighs.r16 : List DOp := [
  ⟨some 66, .mv (.tmp 5), none, []⟩,
  ⟨some 67, .len (.tmp 66), none, []⟩,
  ⟨some 68, .mkslice 1 8 [.int .i64 0] (.tmp 67) (.tmp 67), none, []⟩,
  ⟨some 15, .mv (.tmp 68), none, []⟩]
def F.parlkeep5_DrawWeighs.r17 : List DOp := [
  ⟨some 16, .mv (.const (.int .i64 0)), none, []⟩]
def F.parlkeep5_DrawWeighs.r18 : List DOp := [
  ⟨some 69, .mv (.tmp 1), none, []⟩,
  ⟨some 70, .call I.parlkeep5_below [.tmp 69, .const (.int .i64 9)], none, []⟩,
  ⟨some 71, .call I.parlkeep5_coins [.tmp 70], none, []⟩,
  ⟨some 72, .len (.tmp 71), none, []⟩,
  ⟨some 73, .mv (.const (.int .i64 0)), none, []⟩]
def F.parlkeep5_DrawWeighs.r19 : List DOp := [
  ⟨some 74, .bin .lss (.tmp 73) (.tmp 72), none, []⟩]
def F.parlkeep5_DrawWeighs.r20 : List DOp := [
  ⟨some 75, .idxs 1 (.tmp 71) (.tmp 73), none, []⟩,
  ⟨some 76, .load 1 false (.tmp 75), none, []⟩,
  ⟨some 18, .mv (.tmp 76), none, []⟩]
def F.parlkeep5_DrawWeighs.r21 : List DOp := [
  ⟨some 78, .mv (.tmp 5), none, []⟩,
  ⟨some 79, .mv (.tmp 18), none, []⟩,
  ⟨some 80, .call I.draw_Pick [.tmp 78, .tmp 79], none, []⟩,
  ⟨some 77, .mv (.tmp 80), none, []⟩,
  ⟨some 81, .extract (.tmp 77) 0, none, []⟩,
  ⟨some 82, .extract (.tmp 77) 1, none, []⟩,
  ⟨some 83, .extract (.tmp 77) 2, none, []⟩,
  ⟨some 19, .mv (.tmp 81), none, []⟩,
  ⟨some 20, .mv (.tmp 82), none, []⟩,
  ⟨some 21, .mv (.tmp 83), none, []⟩]
def F.parlkeep5_DrawWeighs.r22 : List DOp := [
  ⟨some 84, .mv (.tmp 21), none, []⟩,
  ⟨some 85, .bin .eql (.tmp 84) (.const (.int .i64 0)), none, []⟩]
def F.parlkeep5_DrawWeighs.r23 : List DOp := [
  ⟨some 86, .mv (.tmp 19), none, []⟩,
  ⟨some 87, .bin .lss (.tmp 86) (.const (.int .i64 0)), none, []⟩,
  ⟨some 88, .mv (.tmp 87), none, []⟩,
  ⟨some 89, .mv (.tmp 19), (some (88, false)), []⟩,
  ⟨some 90, .mv (.tmp 15), (some (88, false)), []⟩,
  ⟨some 91, .len (.tmp 90), (some (88, false)), []⟩,
  ⟨some 92, .bin .geq (.tmp 89) (.tmp 91), (some (88, false)), []⟩,
  ⟨some 93, .pick (.tmp 88) (.const (.bool true)) (.tmp 92), none, []⟩]
def F.parlkeep5_DrawWeighs.r24 : List DOp := [
  ⟨some 4, .mv (.const (.bool false)), none, []⟩]
def F.parlkeep5_DrawWeighs.r25 : List DOp := [
  ⟨some 94, .mv (.tmp 15), none, []⟩,
  ⟨some 95, .mv (.tmp 19), none, []⟩,
  ⟨some 96, .idxs 1 (.tmp 94) (.tmp 95), none, []⟩,
  ⟨some 97, .load 1 false (.tmp 96), none, []⟩,
  ⟨some 98, .bin .add (.tmp 97) (.const (.int .i64 1)), none, []⟩,
  ⟨some 99, .idxs 1 (.tmp 94) (.tmp 95), none, []⟩,
  ⟨none, .store 1 (.tmp 99) (.tmp 98), none, []⟩]
def F.parlkeep5_DrawWeighs.r26 : List DOp := [
  ⟨some 100, .mv (.tmp 16), none, []⟩,
  ⟨some 101, .bin .add (.tmp 100) (.const (.int .i64 1)), none, []⟩,
  ⟨some 16, .mv (.tmp 101), none, []⟩]
def F.parlkeep5_DrawWeighs.r27 : List DOp := [
  ⟨some 102, .bin .add (.tmp 73) (.const (.int .i64 1)), none, []⟩,
  ⟨some 73, .mv (.tmp 102), none, []⟩]
def F.parlkeep5_DrawWeighs.L1 : ACode := .seq (.region F.parlkeep5_DrawWeighs.r19) (.seq (.cond (.tmp 74) (.skip) (.exit 2)) (.seq (.block 3 (.seq (.region F.parlkeep5_DrawWeighs.r20) (.seq (.region F.parlkeep5_DrawWeighs.r21) (.seq (.region F.parlkeep5_DrawWeighs.r22) (.cond (.tmp 85) (.seq (.seq (.region F.parlkeep5_DrawWeighs.r23) (.cond (.tmp 93) (.seq (.region F.parlkeep5_DrawWeighs.r24) (.ret)) (.skip))) (.seq (.region F.parlkeep5_DrawWeighs.r25) (.region F.parlkeep5_DrawWeighs.r26))) (.skip)))))) (.region F.parlkeep5_DrawWeighs.r27)))
def F.parlkeep5_DrawWeighs.r28 : List DOp := [
  ⟨some 103, .mv (.tmp 5), none, []⟩,
  ⟨some 104, .len (.tmp 103), none, []⟩,
  ⟨some 105, .mv (.const (.int .i64 0)), none, []⟩]
def F.parlkeep5_DrawWeighs.r29 : List DOp := [
  ⟨some 106, .bin .lss (.tmp 105) (.tmp 104), none, []⟩]
def F.parlkeep5_DrawWeighs.r30 : List DOp := [
  ⟨some 107, .mv (.tmp 105), none, []⟩,
  ⟨some 108, .idxs 1 (.tmp 103) (.tmp 105), none, []⟩,
  ⟨some 109, .load 1 false (.tmp 108), none, []⟩,
  ⟨some 22, .mv (.tmp 107), none, []⟩,
  ⟨some 23, .mv (.tmp 109), none, []⟩]
def F.parlkeep5_DrawWeighs.r31 : List DOp := [
  ⟨some 110, .mv (.tmp 15), none, []⟩,
  ⟨some 111, .mv (.tmp 22), none, []⟩,
  ⟨some 112, .idxs 1 (.tmp 110) (.tmp 111), none, []⟩,
  ⟨some 113, .load 1 false (.tmp 112), none, []⟩,
  ⟨some 114, .mv (.tmp 6), none, []⟩,
  ⟨some 115, .bin .mul (.tmp 113) (.tmp 114), none, []⟩,
  ⟨some 116, .mv (.tmp 16), none, []⟩,
  ⟨some 117, .mv (.tmp 23), none, []⟩,
  ⟨some 118, .bin .mul (.tmp 116) (.tmp 117), none, []⟩,
  ⟨some 119, .bin .neq (.tmp 115) (.tmp 118), none, []⟩]
def F.parlkeep5_DrawWeighs.r32 : List DOp := [
  ⟨some 4, .mv (.const (.bool false)), none, []⟩]
def F.parlkeep5_DrawWeighs.r33 : List DOp := [
  ⟨some 120, .bin .add (.tmp 105) (.const (.int .i64 1)), none, []⟩,
  ⟨some 105, .mv (.tmp 120), none, []⟩]
def F.parlkeep5_DrawWeighs.L2 : ACode := .seq (.region F.parlkeep5_DrawWeighs.r29) (.seq (.cond (.tmp 106) (.skip) (.exit 4)) (.seq (.block 5 (.seq (.region F.parlkeep5_DrawWeighs.r30) (.seq (.region F.parlkeep5_DrawWeighs.r31) (.cond (.tmp 119) (.seq (.region F.parlkeep5_DrawWeighs.r32) (.ret)) (.skip))))) (.region F.parlkeep5_DrawWeighs.r33)))
def F.parlkeep5_DrawWeighs.r34 : List DOp := [
  ⟨some 4, .mv (.const (.bool true)), none, []⟩]
def F.parlkeep5_DrawWeighs.c : ACode := .seq (.region F.parlkeep5_DrawWeighs.r0) (.seq (.region F.parlkeep5_DrawWeighs.r1) (.seq (.region F.parlkeep5_DrawWeighs.r2) (.seq (.seq (.region F.parlkeep5_DrawWeighs.r3) (.block 0 (.loop F.parlkeep5_DrawWeighs.L0))) (.seq (.seq (.region F.parlkeep5_DrawWeighs.r10) (.seq (.region F.parlkeep5_DrawWeighs.r11) (.cond (.tmp 54) (.seq (.region F.parlkeep5_DrawWeighs.r12) (.ret)) (.skip)))) (.seq (.seq (.region F.parlkeep5_DrawWeighs.r13) (.cond (.tmp 56) (.seq (.region F.parlkeep5_DrawWeighs.r14) (.seq (.region F.parlkeep5_DrawWeighs.r15) (.ret))) (.skip))) (.seq (.region F.parlkeep5_DrawWeighs.r16) (.seq (.region F.parlkeep5_DrawWeighs.r17) (.seq (.seq (.region F.parlkeep5_DrawWeighs.r18) (.block 2 (.loop F.parlkeep5_DrawWeighs.L1))) (.seq (.seq (.region F.parlkeep5_DrawWeighs.r28) (.block 4 (.loop F.parlkeep5_DrawWeighs.L2))) (.seq (.region F.parlkeep5_DrawWeighs.r34) (.ret)))))))))))
def F.parlkeep5_DrawWeighs : AFunc := ⟨F.parlkeep5_DrawWeighs.c, [.tmp 4]⟩
/-! parlance/parlkeep5.TeachKeeps -/
def F.parlkeep5_TeachKeeps.r0 : List DOp := [
  ⟨some 4, .mv (.const (.bool false)), none, []⟩]
def F.parlkeep5_TeachKeeps.r1 : List DOp := [
  ⟨some 15, .mv (.tmp 0), none, []⟩,
  ⟨some 16, .call I.parlmake_Dfa [.tmp 15], none, []⟩,
  ⟨some 5, .alloc [.int .i64 0, .slice none 0 0, .slice none 0 0], none, []⟩,
  ⟨none, .store 3 (.tmp 5) (.tmp 16), none, []⟩]
def F.parlkeep5_TeachKeeps.r2 : List DOp := [
  ⟨some 18, .load 3 true (.tmp 5), none, []⟩,
  ⟨some 19, .call I.teach_New [.tmp 18], none, []⟩,
  ⟨some 17, .mv (.tmp 19), none, []⟩,
  ⟨some 20, .extract (.tmp 17) 0, none, []⟩,
  ⟨some 21, .extract (.tmp 17) 1, none, []⟩,
  ⟨some 6, .mv (.tmp 20), none, []⟩,
  ⟨some 7, .mv (.tmp 21), none, []⟩]
def F.parlkeep5_TeachKeeps.r3 : List DOp := [
  ⟨some 22, .mv (.tmp 7), none, []⟩,
  ⟨some 23, .bin .neq (.tmp 22) (.const (.int .i64 0)), none, []⟩,
  ⟨some 24, .mv (.tmp 23), none, []⟩,
  ⟨some 25, .mv (.tmp 6), (some (24, false)), []⟩,
  ⟨some 26, .eq false .ptr (.tmp 25) (.const (.pointer none)), (some (24, false)), []⟩,
  ⟨some 27, .pick (.tmp 24) (.const (.bool true)) (.tmp 26), none, []⟩,
  ⟨some 28, .mv (.tmp 27), none, []⟩,
  ⟨some 29, .mv (.tmp 6), (some (28, false)), []⟩,
  ⟨some 30, .call I.teach_Teacher_Symbols [.tmp 29], (some (28, false)), []⟩,
  ⟨some 31, .faddr 2 (.tmp 5), (some (28, false)), []⟩,
  ⟨some 32, .load 1 false (.tmp 31), (some (28, false)), []⟩,
  ⟨some 33, .idxs 1 (.tmp 32) (.const (.int .i64 0)), (some (28, false)), []⟩,
  ⟨some 34, .load 1 false (.tmp 33), (some (28, false)), []⟩,
  ⟨some 35, .len (.tmp 34), (some (28, false)), []⟩,
  ⟨some 36, .bin .neq (.tmp 30) (.tmp 35), (some (28, false)), []⟩,
  ⟨some 37, .pick (.tmp 28) (.const (.bool true)) (.tmp 36), none, []⟩]
def F.parlkeep5_TeachKeeps.r4 : List DOp := [
  ⟨some 4, .mv (.const (.bool false)), none, []⟩]
def F.parlkeep5_TeachKeeps.r5 : List DOp := [
  ⟨some 38, .mv (.tmp 6), none, []⟩,
  ⟨some 39, .call I.teach_Teacher_Symbols [.tmp 38], none, []⟩,
  ⟨some 40, .mv (.tmp 1), none, []⟩,
  ⟨some 41, .call I.parlmake_Word [.tmp 39, .const (.int .i64 20), .tmp 40], none, []⟩,
  ⟨some 8, .mv (.tmp 41), none, []⟩]
def F.parlkeep5_TeachKeeps.r6 : List DOp := [
  ⟨some 42, .load 3 true (.tmp 5), none, []⟩,
  ⟨some 43, .mv (.tmp 8), none, []⟩,
  ⟨some 44, .call I.parlkeep5_accepts [.tmp 42, .tmp 43], none, []⟩,
  ⟨some 9, .mv (.tmp 44), none, []⟩]
def F.parlkeep5_TeachKeeps.r7 : List DOp := [
  ⟨some 45, .faddr 1 (.tmp 5), none, []⟩,
  ⟨some 46, .load 1 false (.tmp 45), none, []⟩,
  ⟨some 47, .len (.tmp 46), none, []⟩,
  ⟨some 48, .mv (.const (.int .i64 0)), none, []⟩]
def F.parlkeep5_TeachKeeps.r8 : List DOp := [
  ⟨some 49, .bin .lss (.tmp 48) (.tmp 47), none, []⟩]
def F.parlkeep5_TeachKeeps.r9 : List DOp := [
  ⟨some 50, .mv (.tmp 48), none, []⟩,
  ⟨some 10, .mv (.tmp 50), none, []⟩]
def F.parlkeep5_TeachKeeps.r10 : List DOp := [
  ⟨some 51, .faddr 1 (.tmp 5), none, []⟩,
  ⟨some 52, .load 1 false (.tmp 51), none, []⟩,
  ⟨some 53, .mv (.tmp 10), none, []⟩,
  ⟨some 54, .faddr 1 (.tmp 5), none, []⟩,
  ⟨some 55, .load 1 false (.tmp 54), none, []⟩,
  ⟨some 56, .mv (.tmp 10), none, []⟩,
  ⟨some 57, .idxs 1 (.tmp 55) (.tmp 56), none, []⟩,
  ⟨some 58, .load 1 false (.tmp 57), none, []⟩,
  ⟨some 59, .bin .sub (.const (.int .i64 (-1))) (.tmp 58), none, []⟩,
  ⟨some 60, .idxs 1 (.tmp 52) (.tmp 53), none, []⟩,
  ⟨none, .store 1 (.tmp 60) (.tmp 59), none, []⟩]
def F.parlkeep5_TeachKeeps.r11 : List DOp := [
  ⟨some 61, .faddr 2 (.tmp 5), none, []⟩,
  ⟨some 62, .load 1 false (.tmp 61), none, []⟩,
  ⟨some 63, .mv (.tmp 10), none, []⟩,
  ⟨some 64, .idxs 1 (.tmp 62) (.tmp 63), none, []⟩,
  ⟨some 65, .load 1 false (.tmp 64), none, []⟩,
  ⟨none, .clear 1 [.int .i64 0] (.tmp 65), none, []⟩]
def F.parlkeep5_TeachKeeps.r12 : List DOp := [
  ⟨some 66, .bin .add (.tmp 48) (.const (.int .i64 1)), none, []⟩,
  ⟨some 48, .mv (.tmp 66), none, []⟩]
def F.parlkeep5_TeachKeeps.L0 : ACode := .seq (.region F.parlkeep5_TeachKeeps.r8) (.seq (.cond (.tmp 49) (.skip) (.exit 0)) (.seq (.block 1 (.seq (.region F.parlkeep5_TeachKeeps.r9) (.seq (.draw F.parlkeep5_TeachKeeps.r10 []) (.region F.parlkeep5_TeachKeeps.r11)))) (.region F.parlkeep5_TeachKeeps.r12)))
def F.parlkeep5_TeachKeeps.r13 : List DOp := [
  ⟨some 68, .mv (.tmp 6), none, []⟩,
  ⟨some 69, .mv (.tmp 8), none, []⟩,
  ⟨some 70, .call I.teach_Teacher_Member [.tmp 68, .tmp 69], none, []⟩,
  ⟨some 67, .mv (.tmp 70), none, []⟩,
  ⟨some 71, .extract (.tmp 67) 0, none, []⟩,
  ⟨some 72, .extract (.tmp 67) 1, none, []⟩,
  ⟨some 11, .mv (.tmp 71), none, []⟩,
  ⟨some 12, .mv (.tmp 72), none, []⟩]
def F.parlkeep5_TeachKeeps.r14 : List DOp := [
  ⟨some 74, .mv (.tmp 6), none, []⟩,
  ⟨some 75, .call I.teach_Teacher_Asked [.tmp 74], none, []⟩,
  ⟨some 73, .mv (.tmp 75), none, []⟩,
  ⟨some 76, .extract (.tmp 73) 0, none, []⟩,
  ⟨some 77, .extract (.tmp 73) 1, none, []⟩,
  ⟨some 13, .mv (.tmp 76), none, []⟩,
  ⟨some 14, .mv (.tmp 77), none, []⟩]
def F.parlkeep5_TeachKeeps.r15 : List DOp := [
  ⟨some 78, .mv (.tmp 12), none, []⟩,
  ⟨some 79, .bin .eql (.tmp 78) (.const (.int .i64 0)), none, []⟩,
  ⟨some 80, .mv (.tmp 79), none, []⟩,
  ⟨some 81, .mv (.tmp 9), (some (80, true)), []⟩,
  ⟨some 82, .mv (.tmp 11), (some (80, true)), []⟩,
  ⟨some 83, .eq false .bool (.tmp 81) (.tmp 82), (some (80, true)), []⟩,
  ⟨some 84, .pick (.tmp 80) (.tmp 83) (.const (.bool false)), none, []⟩,
  ⟨some 85, .mv (.tmp 84), none, []⟩,
  ⟨some 86, .mv (.tmp 13), (some (85, true)), []⟩,
  ⟨some 87, .bin .eql (.tmp 86) (.const (.int .i64 1)), (some (85, true)), []⟩,
  ⟨some 88, .pick (.tmp 85) (.tmp 87) (.const (.bool false)), none, []⟩,
  ⟨some 89, .mv (.tmp 88), none, []⟩,
  ⟨some 90, .mv (.tmp 14), (some (89, true)), []⟩,
  ⟨some 91, .bin .eql (.tmp 90) (.const (.int .i64 0)), (some (89, true)), []⟩,
  ⟨some 92, .pick (.tmp 89) (.tmp 91) (.const (.bool false)), none, []⟩,
  ⟨some 4, .mv (.tmp 92), none, []⟩]
def F.parlkeep5_TeachKeeps.c : ACode := .seq (.region F.parlkeep5_TeachKeeps.r0) (.seq (.region F.parlkeep5_TeachKeeps.r1) (.seq (.region F.parlkeep5_TeachKeeps.r2) (.seq (.seq (.draw F.parlkeep5_TeachKeeps.r3 [(10, 8), (12, 8)]) (.cond (.tmp 37) (.seq (.region F.parlkeep5_TeachKeeps.r4) (.ret)) (.skip))) (.seq (.region F.parlkeep5_TeachKeeps.r5) (.seq (.region F.parlkeep5_TeachKeeps.r6) (.seq (.seq (.region F.parlkeep5_TeachKeeps.r7) (.block 0 (.loop F.parlkeep5_TeachKeeps.L0))) (.seq (.region F.parlkeep5_TeachKeeps.r13) (.seq (.region F.parlkeep5_TeachKeeps.r14) (.seq (.region F.parlkeep5_TeachKeeps.r15) (.ret))))))))))
def F.parlkeep5_TeachKeeps : AFunc := ⟨F.parlkeep5_TeachKeeps.c, [.tmp 4]⟩
/-! parlance/parlkeep5.ShrinkLeast -/
def F.parlkeep5_ShrinkLeast.r0 : List DOp := [
  ⟨some 6, .mv (.const (.bool false)), none, []⟩]
def F.parlkeep5_ShrinkLeast.r1 : List DOp := [
  ⟨some 16, .mv (.tmp 0), none, []⟩,
  ⟨some 17, .call I.parlmake_Word [.const (.int .i64 8), .const (.int .i64 60), .tmp 16], none, []⟩,
  ⟨some 0, .mv (.tmp 17), none, []⟩]
def F.parlkeep5_ShrinkLeast.r2 : List DOp := [
  ⟨some 19, .bslice 1 2 [.int .i64 0, .int .i64 0] [(0, 1, .const (.int .i64 1)), (1, 1, .const (.int .i64 2))], none, []⟩,
  ⟨some 20, .call I.shrink_Word [.tmp 19, .func I.parlkeep5_ShrinkLeast_1], none, []⟩,
  ⟨some 18, .mv (.tmp 20), none, []⟩,
  ⟨some 21, .extract (.tmp 18) 0, none, []⟩,
  ⟨some 22, .extract (.tmp 18) 1, none, []⟩,
  ⟨some 7, .mv (.tmp 21), none, []⟩,
  ⟨some 8, .mv (.tmp 22), none, []⟩]
def F.parlkeep5_ShrinkLeast.r3 : List DOp := [
  ⟨some 23, .mv (.tmp 8), none, []⟩,
  ⟨some 24, .bin .neq (.tmp 23) (.const (.int .i64 0)), none, []⟩,
  ⟨some 25, .mv (.tmp 24), none, []⟩,
  ⟨some 26, .mv (.tmp 7), (some (25, false)), []⟩,
  ⟨some 27, .bslice 1 1 [.int .i64 0] [(0, 1, .const (.int .i64 2))], (some (25, false)), []⟩,
  ⟨some 28, .call I.slices_Equal_int_int [.tmp 26, .tmp 27], (some (25, false)), []⟩,
  ⟨some 29, .un .not (.tmp 28), (some (25, false)), []⟩,
  ⟨some 30, .pick (.tmp 25) (.const (.bool true)) (.tmp 29), none, []⟩]
def F.parlkeep5_ShrinkLeast.r4 : List DOp := [
  ⟨some 6, .mv (.const (.bool false)), none, []⟩]
def F.parlkeep5_ShrinkLeast.r5 : List DOp := [
  ⟨some 31, .mv (.tmp 1), none, []⟩,
  ⟨some 32, .mv (.tmp 2), none, []⟩,
  ⟨some 33, .call I.parlkeep5_fails [.tmp 31, .tmp 32], none, []⟩,
  ⟨some 9, .mv (.tmp 33), none, []⟩]
def F.parlkeep5_ShrinkLeast.r6 : List DOp := [
  ⟨some 35, .mv (.tmp 0), none, []⟩,
  ⟨some 36, .mv (.tmp 9), none, []⟩,
  ⟨some 37, .call I.shrink_Word [.tmp 35, .tmp 36], none, []⟩,
  ⟨some 34, .mv (.tmp 37), none, []⟩,
  ⟨some 38, .extract (.tmp 34) 0, none, []⟩,
  ⟨some 39, .extract (.tmp 34) 1, none, []⟩,
  ⟨some 10, .mv (.tmp 38), none, []⟩,
  ⟨some 11, .mv (.tmp 39), none, []⟩]
def F.parlkeep5_ShrinkLeast.r7 : List DOp := [
  ⟨some 40, .mv (.tmp 9), none, []⟩,
  ⟨some 41, .mv (.tmp 0), none, []⟩,
  ⟨some 42, .callv (.tmp 40) [.tmp 41], none, []⟩,
  ⟨some 43, .un .not (.tmp 42), none, []⟩]
def F.parlkeep5_ShrinkLeast.r8 : List DOp := [
  ⟨some 44, .mv (.tmp 11), none, []⟩,
  ⟨some 45, .bin .eql (.tmp 44) (.const (.int .i64 7)), none, []⟩,
  ⟨some 6, .mv (.tmp 45), none, []⟩]
def F.parlkeep5_ShrinkLeast.r9 : List DOp := [
  ⟨some 46, .mv (.tmp 11), none, []⟩,
  ⟨some 47, .bin .neq (.tmp 46) (.const (.int .i64 0)), none, []⟩,
  ⟨some 48, .mv (.tmp 47), none, []⟩,
  ⟨some 49, .mv (.tmp 9), (some (48, false)), []⟩,
  ⟨some 50, .mv (.tmp 10), (some (48, false)), []⟩,
  ⟨some 51, .callv (.tmp 49) [.tmp 50], (some (48, false)), []⟩,
  ⟨some 52, .un .not (.tmp 51), (some (48, false)), []⟩,
  ⟨some 53, .pick (.tmp 48) (.const (.bool true)) (.tmp 52), none, []⟩]
def F.parlkeep5_ShrinkLeast.r10 : List DOp := [
  ⟨some 6, .mv (.const (.bool false)), none, []⟩]
def F.parlkeep5_ShrinkLeast.r11 : List DOp := [
  ⟨some 12, .mv (.const (.int .i64 0)), none, []⟩]
def F.parlkeep5_ShrinkLeast.r12 : List DOp := [
  ⟨some 54, .mv (.tmp 0), none, []⟩,
  ⟨some 55, .len (.tmp 54), none, []⟩,
  ⟨some 56, .mv (.const (.int .i64 0)), none, []⟩]
def F.parlkeep5_ShrinkLeast.r13 : List DOp := [
  ⟨some 57, .bin .lss (.tmp 56) (.tmp 55), none, []⟩]
def F.parlkeep5_ShrinkLeast.r14 : List DOp := [
  ⟨some 58, .idxs 1 (.tmp 54) (.tmp 56), none, []⟩,
  ⟨some 59, .load 1 false (.tmp 58), none, []⟩,
  ⟨some 14, .mv (.tmp 59), none, []⟩]
def F.parlkeep5_ShrinkLeast.r15 : List DOp := [
  ⟨some 60, .mv (.tmp 12), none, []⟩,
  ⟨some 61, .mv (.tmp 10), none, []⟩,
  ⟨some 62, .len (.tmp 61), none, []⟩,
  ⟨some 63, .bin .lss (.tmp 60) (.tmp 62), none, []⟩,
  ⟨some 64, .mv (.tmp 63), none, []⟩,
  ⟨some 65, .mv (.tmp 10), (some (64, true)), []⟩,
  ⟨some 66, .mv (.tmp 12), (some (64, true)), []⟩,
  ⟨some 67, .idxs 1 (.tmp 65) (.tmp 66), (some (64, true)), []⟩,
  ⟨some 68, .load 1 false (.tmp 67), (some (64, true)), []⟩,
  ⟨some 69, .mv (.tmp 14), (some (64, true)), []⟩,
  ⟨some 70, .bin .eql (.tmp 68) (.tmp 69), (some (64, true)), []⟩,
  ⟨some 71, .pick (.tmp 64) (.tmp 70) (.const (.bool false)), none, []⟩]
def F.parlkeep5_ShrinkLeast.r16 : List DOp := [
  ⟨some 72, .mv (.tmp 12), none, []⟩,
  ⟨some 73, .bin .add (.tmp 72) (.const (.int .i64 1)), none, []⟩,
  ⟨some 12, .mv (.tmp 73), none, []⟩]
def F.parlkeep5_ShrinkLeast.r17 : List DOp := [
  ⟨some 74, .bin .add (.tmp 56) (.const (.int .i64 1)), none, []⟩,
  ⟨some 56, .mv (.tmp 74), none, []⟩]
def F.parlkeep5_ShrinkLeast.L0 : ACode := .seq (.region F.parlkeep5_ShrinkLeast.r13) (.seq (.cond (.tmp 57) (.skip) (.exit 0)) (.seq (.block 1 (.seq (.region F.parlkeep5_ShrinkLeast.r14) (.seq (.region F.parlkeep5_ShrinkLeast.r15) (.cond (.tmp 71) (.region F.parlkeep5_ShrinkLeast.r16) (.skip))))) (.region F.parlkeep5_ShrinkLeast.r17)))
def F.parlkeep5_ShrinkLeast.r18 : List DOp := [
  ⟨some 75, .mv (.tmp 12), none, []⟩,
  ⟨some 76, .mv (.tmp 10), none, []⟩,
  ⟨some 77, .len (.tmp 76), none, []⟩,
  ⟨some 78, .bin .neq (.tmp 75) (.tmp 77), none, []⟩]
def F.parlkeep5_ShrinkLeast.r19 : List DOp := [
  ⟨some 6, .mv (.const (.bool false)), none, []⟩]
def F.parlkeep5_ShrinkLeast.r20 : List DOp := [
  ⟨some 79, .mv (.tmp 10), none, []⟩,
  ⟨some 80, .len (.tmp 79), none, []⟩,
  ⟨some 81, .mv (.const (.int .i64 0)), none, []⟩]
def F.parlkeep5_ShrinkLeast.r21 : List DOp := [
  ⟨some 82, .bin .lss (.tmp 81) (.tmp 80), none, []⟩]
def F.parlkeep5_ShrinkLeast.r22 : List DOp := [
  ⟨some 83, .mv (.tmp 81), none, []⟩,
  ⟨some 15, .mv (.tmp 83), none, []⟩]
def F.parlkeep5_ShrinkLeast.r23 : List DOp := [
  ⟨some 84, .mv (.tmp 9), none, []⟩,
  ⟨some 85, .mv (.tmp 10), none, []⟩,
  ⟨some 86, .mv (.tmp 15), none, []⟩,
  ⟨some 87, .slice 1 (.tmp 85) none (some (.tmp 86)), none, []⟩,
  ⟨some 88, .mv (.tmp 10), none, []⟩,
  ⟨some 89, .mv (.tmp 15), none, []⟩,
  ⟨some 90, .bin .add (.tmp 89) (.const (.int .i64 1)), none, []⟩,
  ⟨some 91, .slice 1 (.tmp 88) (some (.tmp 90)) none, none, []⟩,
  ⟨some 92, .bslice 1 2 [.slice none 0 0, .slice none 0 0] [(0, 1, .tmp 87), (1, 1, .tmp 91)], none, []⟩,
  ⟨some 93, .call I.slices_Concat_int_int [.tmp 92], none, []⟩,
  ⟨some 94, .callv (.tmp 84) [.tmp 93], none, []⟩]
def F.parlkeep5_ShrinkLeast.r24 : List DOp := [
  ⟨some 6, .mv (.const (.bool false)), none, []⟩]
def F.parlkeep5_ShrinkLeast.r25 : List DOp := [
  ⟨some 95, .bin .add (.tmp 81) (.const (.int .i64 1)), none, []⟩,
  ⟨some 81, .mv (.tmp 95), none, []⟩]
def F.parlkeep5_ShrinkLeast.L1 : ACode := .seq (.region F.parlkeep5_ShrinkLeast.r21) (.seq (.cond (.tmp 82) (.skip) (.exit 2)) (.seq (.block 3 (.seq (.region F.parlkeep5_ShrinkLeast.r22) (.seq (.draw F.parlkeep5_ShrinkLeast.r23 []) (.cond (.tmp 94) (.seq (.region F.parlkeep5_ShrinkLeast.r24) (.ret)) (.skip))))) (.region F.parlkeep5_ShrinkLeast.r25)))
def F.parlkeep5_ShrinkLeast.r26 : List DOp := [
  ⟨some 6, .mv (.const (.bool true)), none, []⟩]
def F.parlkeep5_ShrinkLeast.c : ACode := .seq (.region F.parlkeep5_ShrinkLeast.r0) (.seq (.region F.parlkeep5_ShrinkLeast.r1) (.seq (.seq (.region F.parlkeep5_ShrinkLeast.r2) (.seq (.region F.parlkeep5_ShrinkLeast.r3) (.cond (.tmp 30) (.seq (.region F.parlkeep5_ShrinkLeast.r4) (.ret)) (.skip)))) (.seq (.region F.parlkeep5_ShrinkLeast.r5) (.seq (.region F.parlkeep5_ShrinkLeast.r6) (.seq (.seq (.region F.parlkeep5_ShrinkLeast.r7) (.cond (.tmp 43) (.seq (.region F.parlkeep5_ShrinkLeast.r8) (.ret)) (.skip))) (.seq (.seq (.region F.parlkeep5_ShrinkLeast.r9) (.cond (.tmp 53) (.seq (.region F.parlkeep5_ShrinkLeast.r10) (.ret)) (.skip))) (.seq (.region F.parlkeep5_ShrinkLeast.r11) (.seq (.seq (.region F.parlkeep5_ShrinkLeast.r12) (.block 0 (.loop F.parlkeep5_ShrinkLeast.L0))) (.seq (.seq (.region F.parlkeep5_ShrinkLeast.r18) (.cond (.tmp 78) (.seq (.region F.parlkeep5_ShrinkLeast.r19) (.ret)) (.skip))) (.seq (.seq (.region F.parlkeep5_ShrinkLeast.r20) (.block 2 (.loop F.parlkeep5_ShrinkLeast.L1))) (.seq (.region F.parlkeep5_ShrinkLeast.r26) (.ret))))))))))))
def F.parlkeep5_ShrinkLeast : AFunc := ⟨F.parlkeep5_ShrinkLeast.c, [.tmp 6]⟩
/-! parlance/parlkeep5.CompareOther -/
def F.parlkeep5_CompareOther.r0 : List DOp := [
  ⟨some 4, .mv (.const (.bool false)), none, []⟩]
def F.parlkeep5_CompareOther.r1 : List DOp := [
  ⟨some 9, .mv (.tmp 0), none, []⟩,
  ⟨some 10, .call I.parlmake_Dfa [.tmp 9], none, []⟩,
  ⟨some 5, .alloc [.int .i64 0, .slice none 0 0, .slice none 0 0], none, []⟩,
  ⟨none, .store 3 (.tmp 5) (.tmp 10), none, []⟩]
def F.parlkeep5_CompareOther.r2 : List DOp := [
  ⟨some 11, .call I.parlkeep5_ends [], none, []⟩,
  ⟨some 12, .call I.compare_Other [.tmp 11], none, []⟩,
  ⟨some 6, .alloc [.int .i64 0, .slice none 0 0, .slice none 0 0], none, []⟩,
  ⟨none, .store 3 (.tmp 6) (.tmp 12), none, []⟩]
def F.parlkeep5_CompareOther.r3 : List DOp := [
  ⟨some 13, .faddr 2 (.tmp 6), none, []⟩,
  ⟨some 14, .load 1 false (.tmp 13), none, []⟩,
  ⟨some 15, .len (.tmp 14), none, []⟩,
  ⟨some 16, .bin .neq (.tmp 15) (.const (.int .i64 3)), none, []⟩]
def F.parlkeep5_CompareOther.r4 : List DOp := [
  ⟨some 4, .mv (.const (.bool false)), none, []⟩]
def F.parlkeep5_CompareOther.r5 : List DOp := [
  ⟨some 17, .load 3 true (.tmp 5), none, []⟩,
  ⟨some 18, .call I.compare_Other [.tmp 17], none, []⟩,
  ⟨some 7, .alloc [.int .i64 0, .slice none 0 0, .slice none 0 0], none, []⟩,
  ⟨none, .store 3 (.tmp 7) (.tmp 18), none, []⟩]
def F.parlkeep5_CompareOther.r6 : List DOp := [
  ⟨some 19, .faddr 2 (.tmp 5), none, []⟩,
  ⟨some 20, .load 1 false (.tmp 19), none, []⟩,
  ⟨some 21, .idxs 1 (.tmp 20) (.const (.int .i64 0)), none, []⟩,
  ⟨some 22, .load 1 false (.tmp 21), none, []⟩,
  ⟨some 23, .len (.tmp 22), none, []⟩,
  ⟨some 24, .mv (.tmp 1), none, []⟩,
  ⟨some 25, .call I.parlmake_Word [.tmp 23, .const (.int .i64 40), .tmp 24], none, []⟩,
  ⟨some 8, .mv (.tmp 25), none, []⟩]
def F.parlkeep5_CompareOther.r7 : List DOp := [
  ⟨some 26, .faddr 2 (.tmp 7), none, []⟩,
  ⟨some 27, .load 1 false (.tmp 26), none, []⟩,
  ⟨some 28, .len (.tmp 27), none, []⟩,
  ⟨some 29, .faddr 2 (.tmp 5), none, []⟩,
  ⟨some 30, .load 1 false (.tmp 29), none, []⟩,
  ⟨some 31, .len (.tmp 30), none, []⟩,
  ⟨some 32, .bin .add (.tmp 31) (.const (.int .i64 1)), none, []⟩,
  ⟨some 33, .bin .eql (.tmp 28) (.tmp 32), none, []⟩,
  ⟨some 34, .mv (.tmp 33), none, []⟩,
  ⟨some 35, .load 3 true (.tmp 5), (some (34, true)), []⟩,
  ⟨some 36, .mv (.tmp 8), (some (34, true)), []⟩,
  ⟨some 37, .call I.parlkeep5_accepts [.tmp 35, .tmp 36], (some (34, true)), []⟩,
  ⟨some 38, .load 3 true (.tmp 7), (some (34, true)), []⟩,
  ⟨some 39, .mv (.tmp 8), (some (34, true)), []⟩,
  ⟨some 40, .call I.parlkeep5_accepts [.tmp 38, .tmp 39], (some (34, true)), []⟩,
  ⟨some 41, .eq true .bool (.tmp 37) (.tmp 40), (some (34, true)), []⟩,
  ⟨some 42, .pick (.tmp 34) (.tmp 41) (.const (.bool false)), none, []⟩,
  ⟨some 4, .mv (.tmp 42), none, []⟩]
def F.parlkeep5_CompareOther.c : ACode := .seq (.region F.parlkeep5_CompareOther.r0) (.seq (.region F.parlkeep5_CompareOther.r1) (.seq (.seq (.region F.parlkeep5_CompareOther.r2) (.seq (.region F.parlkeep5_CompareOther.r3) (.cond (.tmp 16) (.seq (.region F.parlkeep5_CompareOther.r4) (.ret)) (.skip)))) (.seq (.region F.parlkeep5_CompareOther.r5) (.seq (.region F.parlkeep5_CompareOther.r6) (.seq (.draw F.parlkeep5_CompareOther.r7 [(12, 11)]) (.ret))))))
def F.parlkeep5_CompareOther : AFunc := ⟨F.parlkeep5_CompareOther.c, [.tmp 4]⟩
/-! parlance/parlkeep5.ShrinkAgain -/
def F.parlkeep5_ShrinkAgain.r0 : List DOp := [
  ⟨some 6, .mv (.const (.bool false)), none, []⟩]
def F.parlkeep5_ShrinkAgain.r1 : List DOp := [
  ⟨some 18, .mv (.tmp 0), none, []⟩,
  ⟨some 19, .call I.parlmake_Word [.const (.int .i64 8), .const (.int .i64 60), .tmp 18], none, []⟩,
  ⟨some 0, .mv (.tmp 19), none, []⟩]
def F.parlkeep5_ShrinkAgain.r2 : List DOp := [
  ⟨some 21, .bslice 1 2 [.int .i64 0, .int .i64 0] [(0, 1, .const (.int .i64 1)), (1, 1, .const (.int .i64 2))], none, []⟩,
  ⟨some 22, .call I.shrink_Word [.tmp 21, .func I.parlkeep5_ShrinkAgain_1], none, []⟩,
  ⟨some 20, .mv (.tmp 22), none, []⟩,
  ⟨some 23, .extract (.tmp 20) 0, none, []⟩,
  ⟨some 24, .extract (.tmp 20) 1, none, []⟩,
  ⟨some 7, .mv (.tmp 23), none, []⟩,
  ⟨some 8, .mv (.tmp 24), none, []⟩]
def F.parlkeep5_ShrinkAgain.r3 : List DOp := [
  ⟨some 25, .mv (.tmp 8), none, []⟩,
  ⟨some 26, .bin .neq (.tmp 25) (.const (.int .i64 0)), none, []⟩,
  ⟨some 27, .mv (.tmp 26), none, []⟩,
  ⟨some 28, .mv (.tmp 7), (some (27, false)), []⟩,
  ⟨some 29, .bslice 1 1 [.int .i64 0] [(0, 1, .const (.int .i64 2))], (some (27, false)), []⟩,
  ⟨some 30, .call I.slices_Equal_int_int [.tmp 28, .tmp 29], (some (27, false)), []⟩,
  ⟨some 31, .un .not (.tmp 30), (some (27, false)), []⟩,
  ⟨some 32, .pick (.tmp 27) (.const (.bool true)) (.tmp 31), none, []⟩]
def F.parlkeep5_ShrinkAgain.r4 : List DOp := [
  ⟨some 6, .mv (.const (.bool false)), none, []⟩]
def F.parlkeep5_ShrinkAgain.r5 : List DOp := [
  ⟨some 33, .mv (.tmp 1), none, []⟩,
  ⟨some 34, .mv (.tmp 2), none, []⟩,
  ⟨some 35, .call I.parlkeep5_fails [.tmp 33, .tmp 34], none, []⟩,
  ⟨some 9, .mv (.tmp 35), none, []⟩]
def F.parlkeep5_ShrinkAgain.r6 : List DOp := [
  ⟨some 36, .mv (.tmp 9), none, []⟩,
  ⟨some 37, .mv (.tmp 0), none, []⟩,
  ⟨some 38, .callv (.tmp 36) [.tmp 37], none, []⟩,
  ⟨some 39, .un .not (.tmp 38), none, []⟩]
def F.parlkeep5_ShrinkAgain.r7 : List DOp := [
  ⟨some 6, .mv (.const (.bool true)), none, []⟩]
def F.parlkeep5_ShrinkAgain.r8 : List DOp := [
  ⟨some 41, .mv (.tmp 0), none, []⟩,
  ⟨some 42, .mv (.tmp 9), none, []⟩,
  ⟨some 43, .call I.shrink_Word [.tmp 41, .tmp 42], none, []⟩,
  ⟨some 40, .mv (.tmp 43), none, []⟩,
  ⟨some 44, .extract (.tmp 40) 0, none, []⟩,
  ⟨some 45, .extract (.tmp 40) 1, none, []⟩,
  ⟨some 10, .mv (.tmp 44), none, []⟩,
  ⟨some 11, .mv (.tmp 45), none, []⟩]
def F.parlkeep5_ShrinkAgain.r9 : List DOp := [
  ⟨some 47, .mv (.tmp 10), none, []⟩,
  ⟨some 48, .mv (.tmp 9), none, []⟩,
  ⟨some 49, .call I.shrink_Word [.tmp 47, .tmp 48], none, []⟩,
  ⟨some 46, .mv (.tmp 49), none, []⟩,
  ⟨some 50, .extract (.tmp 46) 0, none, []⟩,
  ⟨some 51, .extract (.tmp 46) 1, none, []⟩,
  ⟨some 12, .mv (.tmp 50), none, []⟩,
  ⟨some 13, .mv (.tmp 51), none, []⟩]
def F.parlkeep5_ShrinkAgain.r10 : List DOp := [
  ⟨some 53, .mv (.tmp 0), none, []⟩,
  ⟨some 54, .mv (.tmp 9), none, []⟩,
  ⟨some 55, .call I.shrink_Lower [.tmp 53, .tmp 54], none, []⟩,
  ⟨some 52, .mv (.tmp 55), none, []⟩,
  ⟨some 56, .extract (.tmp 52) 0, none, []⟩,
  ⟨some 57, .extract (.tmp 52) 1, none, []⟩,
  ⟨some 14, .mv (.tmp 56), none, []⟩,
  ⟨some 15, .mv (.tmp 57), none, []⟩]
def F.parlkeep5_ShrinkAgain.r11 : List DOp := [
  ⟨some 59, .mv (.tmp 14), none, []⟩,
  ⟨some 60, .mv (.tmp 9), none, []⟩,
  ⟨some 61, .call I.shrink_Lower [.tmp 59, .tmp 60], none, []⟩,
  ⟨some 58, .mv (.tmp 61), none, []⟩,
  ⟨some 62, .extract (.tmp 58) 0, none, []⟩,
  ⟨some 63, .extract (.tmp 58) 1, none, []⟩,
  ⟨some 16, .mv (.tmp 62), none, []⟩,
  ⟨some 17, .mv (.tmp 63), none, []⟩]
def F.parlkeep5_ShrinkAgain.r12 : List DOp := [
  ⟨some 64, .mv (.tmp 11), none, []⟩,
  ⟨some 65, .bin .eql (.tmp 64) (.const (.int .i64 0)), none, []⟩,
  ⟨some 66, .mv (.tmp 65), none, []⟩,
  ⟨some 67, .mv (.tmp 13), (some (66, true)), []⟩,
  ⟨some 68, .bin .eql (.tmp 67) (.const (.int .i64 0)), (some (66, true)), []⟩,
  ⟨some 69, .pick (.tmp 66) (.tmp 68) (.const (.bool false)), none, []⟩,
  ⟨some 70, .mv (.tmp 69), none, []⟩,
  ⟨some 71, .mv (.tmp 15), (some (70, true)), []⟩,
  ⟨some 72, .bin .eql (.tmp 71) (.const (.int .i64 0)), (some (70, true)), []⟩,
  ⟨some 73, .pick (.tmp 70) (.tmp 72) (.const (.bool false)), none, []⟩,
  ⟨some 74, .mv (.tmp 73), none, []⟩,
  ⟨some 75, .mv (.tmp 17), (some (74, true)), []⟩,
  ⟨some 76, .bin .eql (.tmp 75) (.const (.int .i64 0)), (some (74, true)), []⟩,
  ⟨some 77, .pick (.tmp 74) (.tmp 76) (.const (.bool false)), none, []⟩,
  ⟨some 78, .mv (.tmp 77), none, []⟩,
  ⟨some 79, .mv (.tmp 10), (some (78, true)), []⟩,
  ⟨some 80, .mv (.tmp 12), (some (78, true)), []⟩,
  ⟨some 81, .call I.slices_Equal_int_int [.tmp 79, .tmp 80], (some (78, true)), []⟩,
  ⟨some 82, .pick (.tmp 78) (.tmp 81) (.const (.bool false)), none, []⟩,
  ⟨some 83, .mv (.tmp 82), none, []⟩,
  ⟨some 84, .mv (.tmp 14), (some (83, true)), []⟩,
  ⟨some 85, .mv (.tmp 16), (some (83, true)), []⟩,
  ⟨some 86, .call I.slices_Equal_int_int [.tmp 84, .tmp 85], (some (83, true)), []⟩,
  ⟨some 87, .pick (.tmp 83) (.tmp 86) (.const (.bool false)), none, []⟩,
  ⟨some 88, .mv (.tmp 87), none, []⟩,
  ⟨some 89, .mv (.tmp 14), (some (88, true)), []⟩,
  ⟨some 90, .len (.tmp 89), (some (88, true)), []⟩,
  ⟨some 91, .mv (.tmp 0), (some (88, true)), []⟩,
  ⟨some 92, .len (.tmp 91), (some (88, true)), []⟩,
  ⟨some 93, .bin .eql (.tmp 90) (.tmp 92), (some (88, true)), []⟩,
  ⟨some 94, .pick (.tmp 88) (.tmp 93) (.const (.bool false)), none, []⟩,
  ⟨some 95, .mv (.tmp 94), none, []⟩,
  ⟨some 96, .mv (.tmp 14), (some (95, true)), []⟩,
  ⟨some 97, .mv (.tmp 0), (some (95, true)), []⟩,
  ⟨some 98, .call I.slices_Compare_int_int [.tmp 96, .tmp 97], (some (95, true)), []⟩,
  ⟨some 99, .bin .leq (.tmp 98) (.const (.int .i64 0)), (some (95, true)), []⟩,
  ⟨some 100, .pick (.tmp 95) (.tmp 99) (.const (.bool false)), none, []⟩,
  ⟨some 6, .mv (.tmp 100), none, []⟩]
def F.parlkeep5_ShrinkAgain.c : ACode := .seq (.region F.parlkeep5_ShrinkAgain.r0) (.seq (.region F.parlkeep5_ShrinkAgain.r1) (.seq (.seq (.region F.parlkeep5_ShrinkAgain.r2) (.seq (.region F.parlkeep5_ShrinkAgain.r3) (.cond (.tmp 32) (.seq (.region F.parlkeep5_ShrinkAgain.r4) (.ret)) (.skip)))) (.seq (.region F.parlkeep5_ShrinkAgain.r5) (.seq (.seq (.region F.parlkeep5_ShrinkAgain.r6) (.cond (.tmp 39) (.seq (.region F.parlkeep5_ShrinkAgain.r7) (.ret)) (.skip))) (.seq (.region F.parlkeep5_ShrinkAgain.r8) (.seq (.region F.parlkeep5_ShrinkAgain.r9) (.seq (.region F.parlkeep5_ShrinkAgain.r10) (.seq (.region F.parlkeep5_ShrinkAgain.r11) (.seq (.region F.parlkeep5_ShrinkAgain.r12) (.ret))))))))))
def F.parlkeep5_ShrinkAgain : AFunc := ⟨F.parlkeep5_ShrinkAgain.c, [.tmp 6]⟩
/-! parlance/parlkeep5.DrawEach -/
def F.parlkeep5_DrawEach.r0 : List DOp := [
  ⟨some 4, .mv (.const (.bool false)), none, []⟩]
def F.parlkeep5_DrawEach.r1 : List DOp := [
  ⟨some 22, .mv (.tmp 0), none, []⟩,
  ⟨some 23, .call I.parlkeep5_below [.tmp 22, .const (.int .i64 4)], none, []⟩,
  ⟨some 24, .mv (.tmp 1), none, []⟩,
  ⟨some 25, .call I.parlkeep5_below [.tmp 24, .const (.int .i64 9)], none, []⟩,
  ⟨some 0, .mv (.tmp 23), none, []⟩,
  ⟨some 1, .mv (.tmp 25), none, []⟩]
def F.parlkeep5_DrawEach.r2 : List DOp := [
  ⟨some 27, .bslice 1 1 [.bool false] [(0, 1, .const (.bool false))], none, []⟩,
  ⟨some 28, .call I.draw_Order [.const (.int .i64 2), .tmp 27], none, []⟩,
  ⟨some 26, .mv (.tmp 28), none, []⟩,
  ⟨some 29, .extract (.tmp 26) 0, none, []⟩,
  ⟨some 30, .extract (.tmp 26) 1, none, []⟩,
  ⟨some 31, .extract (.tmp 26) 2, none, []⟩,
  ⟨some 5, .mv (.tmp 29), none, []⟩,
  ⟨some 6, .mv (.tmp 30), none, []⟩,
  ⟨some 7, .mv (.tmp 31), none, []⟩]
def F.parlkeep5_DrawEach.r3 : List DOp := [
  ⟨some 32, .mv (.tmp 7), none, []⟩,
  ⟨some 33, .bin .neq (.tmp 32) (.const (.int .i64 0)), none, []⟩,
  ⟨some 34, .mv (.tmp 33), none, []⟩,
  ⟨some 35, .mv (.tmp 5), (some (34, false)), []⟩,
  ⟨some 36, .len (.tmp 35), (some (34, false)), []⟩,
  ⟨some 37, .bin .neq (.tmp 36) (.const (.int .i64 2)), (some (34, false)), []⟩,
  ⟨some 38, .pick (.tmp 34) (.const (.bool true)) (.tmp 37), none, []⟩]
def F.parlkeep5_DrawEach.r4 : List DOp := [
  ⟨some 4, .mv (.const (.bool false)), none, []⟩]
def F.parlkeep5_DrawEach.r5 : List DOp := [
  ⟨some 39, .bad, none, []⟩,
  ⟨some 8, .mv (.tmp 39), none, []⟩]
def F.parlkeep5_DrawEach.r6 : List DOp := [
  ⟨some 40, .mv (.tmp 1), none, []⟩,
  ⟨some 41, .call I.parlkeep5_coins [.tmp 40], none, []⟩,
  ⟨some 42, .len (.tmp 41), none, []⟩,
  ⟨some 43, .mv (.const (.int .i64 0)), none, []⟩]
def F.parlkeep5_DrawEach.r7 : List DOp := [
  ⟨some 44, .bin .lss (.tmp 43) (.tmp 42), none, []⟩]
def F.parlkeep5_DrawEach.r8 : List DOp := [
  ⟨some 45, .idxs 1 (.tmp 41) (.tmp 43), none, []⟩,
  ⟨some 46, .load 1 false (.tmp 45), none, []⟩,
  ⟨some 10, .mv (.tmp 46), none, []⟩]
def F.parlkeep5_DrawEach.r9 : List DOp := [
  ⟨some 48, .mv (.tmp 0), none, []⟩,
  ⟨some 49, .mv (.tmp 10), none, []⟩,
  ⟨some 50, .call I.draw_Order [.tmp 48, .tmp 49], none, []⟩,
  ⟨some 47, .mv (.tmp 50), none, []⟩,
  ⟨some 51, .extract (.tmp 47) 0, none, []⟩,
  ⟨some 52, .extract (.tmp 47) 1, none, []⟩,
  ⟨some 53, .extract (.tmp 47) 2, none, []⟩,
  ⟨some 11, .mv (.tmp 51), none, []⟩,
  ⟨some 12, .mv (.tmp 52), none, []⟩,
  ⟨some 13, .mv (.tmp 53), none, []⟩]
def F.parlkeep5_DrawEach.r10 : List DOp := [
  ⟨some 54, .mv (.tmp 13), none, []⟩,
  ⟨some 55, .bin .neq (.tmp 54) (.const (.int .i64 0)), none, []⟩]
def F.parlkeep5_DrawEach.r11 : List DOp := [
  ⟨some 14, .mv (.const (.int .i64 0)), none, []⟩]
def F.parlkeep5_DrawEach.r12 : List DOp := [
  ⟨some 56, .mv (.tmp 11), none, []⟩,
  ⟨some 57, .call I.slices_Clone_int_int [.tmp 56], none, []⟩,
  ⟨some 15, .mv (.tmp 57), none, []⟩]
def F.parlkeep5_DrawEach.r13 : List DOp := [
  ⟨some 58, .mv (.tmp 15), none, []⟩,
  ⟨some 59, .call I.slices_Sort_int_int [.tmp 58], none, []⟩]
def F.parlkeep5_DrawEach.r14 : List DOp := [
  ⟨some 60, .mv (.tmp 11), none, []⟩,
  ⟨some 61, .len (.tmp 60), none, []⟩,
  ⟨some 62, .mv (.const (.int .i64 0)), none, []⟩]
def F.parlkeep5_DrawEach.r15 : List DOp := [
  ⟨some 63, .bin .lss (.tmp 62) (.tmp 61), none, []⟩]
def F.parlkeep5_DrawEach.r16 : List DOp := [
  ⟨some 64, .mv (.tmp 62), none, []⟩,
  ⟨some 65, .idxs 1 (.tmp 60) (.tmp 62), none, []⟩,
  ⟨some 66, .load 1 false (.tmp 65), none, []⟩,
  ⟨some 16, .mv (.tmp 64), none, []⟩,
  ⟨some 17, .mv (.tmp 66), none, []⟩]
def F.parlkeep5_DrawEach.r17 : List DOp := [
  ⟨some 67, .mv (.tmp 15), none, []⟩,
  ⟨some 68, .mv (.tmp 16), none, []⟩,
  ⟨some 69, .idxs 1 (.tmp 67) (.tmp 68), none, []⟩,
  ⟨some 70, .load 1 false (.tmp 69), none, []⟩,
  ⟨some 71, .mv (.tmp 16), none, []⟩,
  ⟨some 72, .bin .neq (.tmp 70) (.tmp 71), none, []⟩]
def F.parlkeep5_DrawEach.r18 : List DOp := [
  ⟨some 4, .mv (.const (.bool false)), none, []⟩]
def F.parlkeep5_DrawEach.r19 : List DOp := [
  ⟨some 73, .mv (.tmp 14), none, []⟩,
  ⟨some 74, .mv (.tmp 0), none, []⟩,
  ⟨some 75, .bin .mul (.tmp 73) (.tmp 74), none, []⟩,
  ⟨some 76, .mv (.tmp 17), none, []⟩,
  ⟨some 77, .bin .add (.tmp 75) (.tmp 76), none, []⟩,
  ⟨some 14, .mv (.tmp 77), none, []⟩]
def F.parlkeep5_DrawEach.r20 : List DOp := [
  ⟨some 78, .bin .add (.tmp 62) (.const (.int .i64 1)), none, []⟩,
  ⟨some 62, .mv (.tmp 78), none, []⟩]
def F.parlkeep5_DrawEach.L1 : ACode := .seq (.region F.parlkeep5_DrawEach.r15) (.seq (.cond (.tmp 63) (.skip) (.exit 2)) (.seq (.block 3 (.seq (.region F.parlkeep5_DrawEach.r16) (.seq (.seq (.region F.parlkeep5_DrawEach.r17) (.cond (.tmp 72) (.seq (.region F.parlkeep5_DrawEach.r18) (.ret)) (.skip))) (.region F.parlkeep5_DrawEach.r19)))) (.region F.parlkeep5_DrawEach.r20)))
def F.parlkeep5_DrawEach.r21 : List DOp := [
  ⟨some 79, .mv (.tmp 11), none, []⟩,
  ⟨some 80, .len (.tmp 79), none, []⟩,
  ⟨some 81, .mv (.tmp 0), none, []⟩,
  ⟨some 82, .bin .neq (.tmp 80) (.tmp 81), none, []⟩]
def F.parlkeep5_DrawEach.r22 : List DOp := [
  ⟨some 4, .mv (.const (.bool false)), none, []⟩]
def F.parlkeep5_DrawEach.r23 : List DOp := [
  ⟨some 83, .mv (.tmp 8), none, []⟩,
  ⟨some 84, .mv (.tmp 14), none, []⟩,
  ⟨some 85, .bad, none, []⟩,
  ⟨some 86, .bin .add (.tmp 85) (.const (.int .i64 1)), none, []⟩,
  ⟨none, .bad, none, []⟩]
def F.parlkeep5_DrawEach.r24 : List DOp := [
  ⟨some 87, .bin .add (.tmp 43) (.const (.int .i64 1)), none, []⟩,
  ⟨some 43, .mv (.tmp 87), none, []⟩]
def F.parlkeep5_DrawEach.L0 : ACode := .seq (.region F.parlkeep5_DrawEach.r7) (.seq (.cond (.tmp 44) (.skip) (.exit 0)) (.seq (.block 1 (.seq (.region F.parlkeep5_DrawEach.r8) (.seq (.region F.parlkeep5_DrawEach.r9) (.seq (.seq (.region F.parlkeep5_DrawEach.r10) (.cond (.tmp 55) (.exit 1) (.skip))) (.seq (.region F.parlkeep5_DrawEach.r11) (.seq (.region F.parlkeep5_DrawEach.r12) (.seq (.region F.parlkeep5_DrawEach.r13) (.seq (.seq (.region F.parlkeep5_DrawEach.r14) (.block 2 (.loop F.parlkeep5_DrawEach.L1))) (.seq (.seq (.region F.parlkeep5_DrawEach.r21) (.cond (.tmp 82) (.seq (.region F.parlkeep5_DrawEach.r22) (.ret)) (.skip))) (.region F.parlkeep5_DrawEach.r23)))))))))) (.region F.parlkeep5_DrawEach.r24)))
def F.parlkeep5_DrawEach.r25 : List DOp := [
  ⟨some 88, .mv (.tmp 8), none, []⟩,
  ⟨some 89, .bad, none, []⟩,
  ⟨some 90, .bin .eql (.tmp 89) (.const (.int .i64 0)), none, []⟩]
def F.parlkeep5_DrawEach.r26 : List DOp := [
  ⟨some 4, .mv (.const (.bool true)), none, []⟩]
def F.parlkeep5_DrawEach.r27 : List DOp := [
  ⟨some 18, .mv (.const (.int .i64 1099511627776)), none, []⟩,
  ⟨some 19, .mv (.const (.int .i64 0)), none, []⟩]
def F.parlkeep5_DrawEach.r28 : List DOp := [
  ⟨some 91, .mv (.tmp 8), none, []⟩,
  ⟨some 92, .bad, none, []⟩]
def F.parlkeep5_DrawEach.r29 : List DOp := [
  ⟨some 93, .bad, none, []⟩,
  ⟨some 94, .extract (.tmp 93) 0, none, []⟩]
def F.parlkeep5_DrawEach.r30 : List DOp := [
  ⟨some 95, .bad, none, []⟩,
  ⟨some 96, .extract (.tmp 95) 1, none, []⟩,
  ⟨some 21, .mv (.tmp 96), none, []⟩]
def F.parlkeep5_DrawEach.r31 : List DOp := [
  ⟨some 97, .mv (.tmp 18), none, []⟩,
  ⟨some 98, .mv (.tmp 21), none, []⟩,
  ⟨some 99, .mm false [.tmp 97, .tmp 98], none, []⟩,
  ⟨some 100, .mv (.tmp 19), none, []⟩,
  ⟨some 101, .mv (.tmp 21), none, []⟩,
  ⟨some 102, .mm true [.tmp 100, .tmp 101], none, []⟩,
  ⟨some 18, .mv (.tmp 99), none, []⟩,
  ⟨some 19, .mv (.tmp 102), none, []⟩]
def F.parlkeep5_DrawEach.L2 : ACode := .seq (.region F.parlkeep5_DrawEach.r29) (.seq (.cond (.tmp 94) (.skip) (.exit 4)) (.block 5 (.seq (.region F.parlkeep5_DrawEach.r30) (.region F.parlkeep5_DrawEach.r31))))
def F.parlkeep5_DrawEach.r32 : List DOp := [
  ⟨some 103, .mv (.tmp 18), none, []⟩,
  ⟨some 104, .mv (.tmp 19), none, []⟩,
  ⟨some 105, .bin .eql (.tmp 103) (.tmp 104), none, []⟩,
  ⟨some 106, .mv (.tmp 105), none, []⟩,
  ⟨some 107, .mv (.tmp 8), (some (106, true)), []⟩,
  ⟨some 108, .bad, (some (106, true)), []⟩,
  ⟨some 109, .bslice 1 4 [.int .i64 0, .int .i64 0, .int .i64 0, .int .i64 0] [(0, 1, .const (.int .i64 1)), (1, 1, .const (.int .i64 1)), (2, 1, .const (.int .i64 2)), (3, 1, .const (.int .i64 6))], (some (106, true)), []⟩,
  ⟨some 110, .mv (.tmp 0), (some (106, true)), []⟩,
  ⟨some 111, .idxs 1 (.tmp 109) (.tmp 110), (some (106, true)), []⟩,
  ⟨some 112, .load 1 false (.tmp 111), (some (106, true)), []⟩,
  ⟨some 113, .bin .eql (.tmp 108) (.tmp 112), (some (106, true)), []⟩,
  ⟨some 114, .pick (.tmp 106) (.tmp 113) (.const (.bool false)), none, []⟩,
  ⟨some 4, .mv (.tmp 114), none, []⟩]
def F.parlkeep5_DrawEach.c : ACode := .seq (.region F.parlkeep5_DrawEach.r0) (.seq (.region F.parlkeep5_DrawEach.r1) (.seq (.seq (.region F.parlkeep5_DrawEach.r2) (.seq (.region F.parlkeep5_DrawEach.r3) (.cond (.tmp 38) (.seq (.region F.parlkeep5_DrawEach.r4) (.ret)) (.skip)))) (.seq (.region F.parlkeep5_DrawEach.r5) (.seq (.seq (.region F.parlkeep5_DrawEach.r6) (.block 0 (.loop F.parlkeep5_DrawEach.L0))) (.seq (.seq (.region F.parlkeep5_DrawEach.r25) (.cond (.tmp 90) (.seq (.region F.parlkeep5_DrawEach.r26) (.ret)) (.skip))) (.seq (.region F.parlkeep5_DrawEach.r27) (.seq (.seq (.region F.parlkeep5_DrawEach.r28) (.block 4 (.loop F.parlkeep5_DrawEach.L2))) (.seq (.draw F.parlkeep5_DrawEach.r32 [(9, 5)]) (.ret)))))))))
def F.parlkeep5_DrawEach : AFunc := ⟨F.parlkeep5_DrawEach.c, [.tmp 4]⟩
/-! parlance/parlkeep5.below -/
def F.parlkeep5_below.r0 : List DOp := [
  ⟨some 4, .mv (.const (.int .i64 0)), none, []⟩]
def F.parlkeep5_below.r1 : List DOp := [
  ⟨some 5, .mv (.tmp 0), none, []⟩,
  ⟨some 6, .mv (.tmp 1), none, []⟩,
  ⟨some 7, .call I.parlmake_Below [.tmp 5, .tmp 6], none, []⟩,
  ⟨some 4, .mv (.tmp 7), none, []⟩]
def F.parlkeep5_below.c : ACode := .seq (.region F.parlkeep5_below.r0) (.seq (.region F.parlkeep5_below.r1) (.ret))
def F.parlkeep5_below : AFunc := ⟨F.parlkeep5_below.c, [.tmp 4]⟩
/-! parlance/parlkeep5.coins -/
def F.parlkeep5_coins.r0 : List DOp := [
  ⟨some 2, .mv (.const (.slice none 0 0)), none, []⟩]
def F.parlkeep5_coins.r1 : List DOp := [
  ⟨some 7, .bslice 1 1 [.slice none 0 0] [(0, 1, .const (.slice none 0 0))], none, []⟩,
  ⟨some 3, .mv (.tmp 7), none, []⟩]
def F.parlkeep5_coins.r2 : List DOp := [
  ⟨some 8, .mv (.tmp 0), none, []⟩,
  ⟨some 9, .mv (.const (.int .i64 0)), none, []⟩]
def F.parlkeep5_coins.r3 : List DOp := [
  ⟨some 10, .bin .lss (.tmp 9) (.tmp 8), none, []⟩]
def F.parlkeep5_coins.r4 : List DOp := [
  ⟨some 4, .mv (.const (.slice none 0 0)), none, []⟩]
def F.parlkeep5_coins.r5 : List DOp := [
  ⟨some 11, .mv (.tmp 3), none, []⟩,
  ⟨some 12, .len (.tmp 11), none, []⟩,
  ⟨some 13, .mv (.const (.int .i64 0)), none, []⟩]
def F.parlkeep5_coins.r6 : List DOp := [
  ⟨some 14, .bin .lss (.tmp 13) (.tmp 12), none, []⟩]
def F.parlkeep5_coins.r7 : List DOp := [
  ⟨some 15, .idxs 1 (.tmp 11) (.tmp 13), none, []⟩,
  ⟨some 16, .load 1 false (.tmp 15), none, []⟩,
  ⟨some 6, .mv (.tmp 16), none, []⟩]
def F.parlkeep5_coins.r8 : List DOp := [
  ⟨some 17, .mv (.tmp 4), none, []⟩,
  ⟨some 18, .mv (.tmp 6), none, []⟩,
  ⟨some 19, .call I.slices_Clone_bool_bool [.tmp 18], none, []⟩,
  ⟨some 20, .bslice 1 1 [.bool false] [(0, 1, .const (.bool false))], none, []⟩,
  ⟨some 21, .append 1 1 (.tmp 19) (.tmp 20), none, []⟩,
  ⟨some 22, .mv (.tmp 6), none, []⟩,
  ⟨some 23, .call I.slices_Clone_bool_bool [.tmp 22], none, []⟩,
  ⟨some 24, .bslice 1 1 [.bool false] [(0, 1, .const (.bool true))], none, []⟩,
  ⟨some 25, .append 1 1 (.tmp 23) (.tmp 24), none, []⟩,
  ⟨some 26, .bslice 1 2 [.slice none 0 0, .slice none 0 0] [(0, 1, .tmp 21), (1, 1, .tmp 25)], none, []⟩,
  ⟨some 27, .append 1 24 (.tmp 17) (.tmp 26), none, []⟩,
  ⟨some 4, .mv (.tmp 27), none, []⟩]
def F.parlkeep5_coins.r9 : List DOp := [
  ⟨some 28, .bin .add (.tmp 13) (.const (.int .i64 1)), none, []⟩,
  ⟨some 13, .mv (.tmp 28), none, []⟩]
def F.parlkeep5_coins.L1 : ACode := .seq (.region F.parlkeep5_coins.r6) (.seq (.cond (.tmp 14) (.skip) (.exit 2)) (.seq (.block 3 (.seq (.region F.parlkeep5_coins.r7) (.region F.parlkeep5_coins.r8))) (.region F.parlkeep5_coins.r9)))
def F.parlkeep5_coins.r10 : List DOp := [
  ⟨some 29, .mv (.tmp 4), none, []⟩,
  ⟨some 3, .mv (.tmp 29), none, []⟩]
def F.parlkeep5_coins.r11 : List DOp := [
  ⟨some 30, .bin .add (.tmp 9) (.const (.int .i64 1)), none, []⟩,
  ⟨some 9, .mv (.tmp 30), none, []⟩]
def F.parlkeep5_coins.L0 : ACode := .seq (.region F.parlkeep5_coins.r3) (.seq (.cond (.tmp 10) (.skip) (.exit 0)) (.seq (.block 1 (.seq (.region F.parlkeep5_coins.r4) (.seq (.seq (.region F.parlkeep5_coins.r5) (.block 2 (.loop F.parlkeep5_coins.L1))) (.region F.parlkeep5_coins.r10)))) (.region F.parlkeep5_coins.r11)))
def F.parlkeep5_coins.r12 : List DOp := [
  ⟨some 31, .mv (.tmp 3), none, []⟩,
  ⟨some 2, .mv (.tmp 31), none, []⟩]
def F.parlkeep5_coins.c : ACode := .seq (.region F.parlkeep5_coins.r0) (.seq (.region F.parlkeep5_coins.r1) (.seq (.seq (.region F.parlkeep5_coins.r2) (.block 0 (.loop F.parlkeep5_coins.L0))) (.seq (.region F.parlkeep5_coins.r12) (.ret))))
def F.parlkeep5_coins : AFunc := ⟨F.parlkeep5_coins.c, [.tmp 2]⟩
/-! parlance/parlkeep5.accepts -/
def F.parlkeep5_accepts.r0 : List DOp := [
  ⟨some 2, .box (.tmp 0), none, []⟩,
  ⟨some 4, .mv (.const (.bool false)), none, []⟩]
def F.parlkeep5_accepts.r1 : List DOp := [
  ⟨some 8, .load 3 true (.tmp 2), none, []⟩,
  ⟨some 9, .mv (.tmp 1), none, []⟩,
  ⟨some 10, .call I.dfa_Run [.tmp 8, .tmp 9], none, []⟩,
  ⟨some 7, .mv (.tmp 10), none, []⟩,
  ⟨some 11, .extract (.tmp 7) 0, none, []⟩,
  ⟨some 12, .extract (.tmp 7) 1, none, []⟩,
  ⟨some 5, .mv (.tmp 11), none, []⟩,
  ⟨some 6, .mv (.tmp 12), none, []⟩]
def F.parlkeep5_accepts.r2 : List DOp := [
  ⟨some 13, .mv (.tmp 6), none, []⟩,
  ⟨some 14, .bin .eql (.tmp 13) (.const (.int .i64 0)), none, []⟩,
  ⟨some 15, .mv (.tmp 14), none, []⟩,
  ⟨some 16, .mv (.tmp 5), (some (15, true)), []⟩,
  ⟨some 17, .bin .geq (.tmp 16) (.const (.int .i64 0)), (some (15, true)), []⟩,
  ⟨some 18, .pick (.tmp 15) (.tmp 17) (.const (.bool false)), none, []⟩,
  ⟨some 4, .mv (.tmp 18), none, []⟩]
def F.parlkeep5_accepts.c : ACode := .seq (.region F.parlkeep5_accepts.r0) (.seq (.region F.parlkeep5_accepts.r1) (.seq (.region F.parlkeep5_accepts.r2) (.ret)))
def F.parlkeep5_accepts : AFunc := ⟨F.parlkeep5_accepts.c, [.tmp 4]⟩
/-! parlance/parlkeep5.ShrinkLeast$1 -/
def F.parlkeep5_ShrinkLeast_1.r0 : List DOp := [
  ⟨some 2, .mv (.const (.bool false)), none, []⟩]
def F.parlkeep5_ShrinkLeast_1.r1 : List DOp := [
  ⟨some 3, .mv (.tmp 0), none, []⟩,
  ⟨some 4, .call I.slices_Contains_int_int [.tmp 3, .const (.int .i64 2)], none, []⟩,
  ⟨some 2, .mv (.tmp 4), none, []⟩]
def F.parlkeep5_ShrinkLeast_1.c : ACode := .seq (.region F.parlkeep5_ShrinkLeast_1.r0) (.seq (.region F.parlkeep5_ShrinkLeast_1.r1) (.ret))
def F.parlkeep5_ShrinkLeast_1 : AFunc := ⟨F.parlkeep5_ShrinkLeast_1.c, [.tmp 2]⟩
/-! parlance/parlkeep5.fails -/
def F.parlkeep5_fails.r0 : List DOp := [
  ⟨some 2, .box (.tmp 0), none, []⟩,
  ⟨some 3, .box (.tmp 1), none, []⟩,
  ⟨some 4, .mv (.const (.nilFunc)), none, []⟩]
def F.parlkeep5_fails.r1 : List DOp := [
  ⟨some 5, .load 1 false (.tmp 2), none, []⟩,
  ⟨some 6, .call I.parlkeep5_below [.tmp 5, .const (.int .i64 5)], none, []⟩,
  ⟨some 7, .load 1 false (.tmp 3), none, []⟩,
  ⟨some 8, .call I.parlkeep5_below [.tmp 7, .const (.int .i64 3)], none, []⟩,
  ⟨none, .store 1 (.tmp 2) (.tmp 6), none, []⟩,
  ⟨none, .store 1 (.tmp 3) (.tmp 8), none, []⟩]
def F.parlkeep5_fails.r2 : List DOp := [
  ⟨some 9, .mkfn (.func I.parlkeep5_fails_1) [.tmp 2, .tmp 3], none, []⟩,
  ⟨some 4, .mv (.tmp 9), none, []⟩]
def F.parlkeep5_fails.c : ACode := .seq (.region F.parlkeep5_fails.r0) (.seq (.draw F.parlkeep5_fails.r1 [(2, 1)]) (.seq (.region F.parlkeep5_fails.r2) (.ret)))
def F.parlkeep5_fails : AFunc := ⟨F.parlkeep5_fails.c, [.tmp 4]⟩
/-! parlance/parlkeep5.ends -/
def F.parlkeep5_ends.r0 : List DOp := [
  ⟨some 0, .alloc [.int .i64 0, .slice none 0 0, .slice none 0 0], none, []⟩]
def F.parlkeep5_ends.r1 : List DOp := [
  ⟨some 1, .bslice 1 2 [.int .i64 0, .int .i64 0] [(0, 1, .const (.int .i64 (-1))), (1, 1, .const (.int .i64 0))], none, []⟩,
  ⟨some 2, .bslice 1 2 [.int .i64 0, .int .i64 0] [(0, 1, .const (.int .i64 1)), (1, 1, .const (.int .i64 0))], none, []⟩,
  ⟨some 3, .bslice 1 2 [.int .i64 0, .int .i64 0] [(0, 1, .const (.int .i64 1)), (1, 1, .const (.int .i64 0))], none, []⟩,
  ⟨some 4, .bslice 1 2 [.slice none 0 0, .slice none 0 0] [(0, 1, .tmp 2), (1, 1, .tmp 3)], none, []⟩,
  ⟨some 5, .build [.int .i64 0, .slice none 0 0, .slice none 0 0] [(1, 1, .tmp 1), (2, 1, .tmp 4)], none, []⟩,
  ⟨none, .store 3 (.tmp 0) (.tmp 5), none, []⟩]
def F.parlkeep5_ends.c : ACode := .seq (.region F.parlkeep5_ends.r0) (.seq (.region F.parlkeep5_ends.r1) (.ret))
def F.parlkeep5_ends : AFunc := ⟨F.parlkeep5_ends.c, [.cell 0 3 true]⟩
/-! parlance/parlkeep5.ShrinkAgain$1 -/
def F.parlkeep5_ShrinkAgain_1.r0 : List DOp := [
  ⟨some 2, .mv (.const (.bool false)), none, []⟩]
def F.parlkeep5_ShrinkAgain_1.r1 : List DOp := [
  ⟨some 3, .mv (.tmp 0), none, []⟩,
  ⟨some 4, .call I.slices_Contains_int_int [.tmp 3, .const (.int .i64 2)], none, []⟩,
  ⟨some 2, .mv (.tmp 4), none, []⟩]
def F.parlkeep5_ShrinkAgain_1.c : ACode := .seq (.region F.parlkeep5_ShrinkAgain_1.r0) (.seq (.region F.parlkeep5_ShrinkAgain_1.r1) (.ret))
def F.parlkeep5_ShrinkAgain_1 : AFunc := ⟨F.parlkeep5_ShrinkAgain_1.c, [.tmp 2]⟩
/-! parlance/parlkeep5.fails$1 -/
def F.parlkeep5_fails_1.r0 : List DOp := [
  ⟨some 4, .mv (.const (.bool false)), none, []⟩]
def F.parlkeep5_fails_1.r1 : List DOp := [
  ⟨some 5, .mv (.const (.int .i64 0)), none, []⟩]
def F.parlkeep5_fails_1.r2 : List DOp := [
  ⟨some 8, .mv (.tmp 0), none, []⟩,
  ⟨some 9, .len (.tmp 8), none, []⟩,
  ⟨some 10, .mv (.const (.int .i64 0)), none, []⟩]
def F.parlkeep5_fails_1.r3 : List DOp := [
  ⟨some 11, .bin .lss (.tmp 10) (.tmp 9), none, []⟩]
def F.parlkeep5_fails_1.r4 : List DOp := [
  ⟨some 12, .mv (.tmp 10), none, []⟩,
  ⟨some 13, .idxs 1 (.tmp 8) (.tmp 10), none, []⟩,
  ⟨some 14, .load 1 false (.tmp 13), none, []⟩,
  ⟨some 6, .mv (.tmp 12), none, []⟩,
  ⟨some 7, .mv (.tmp 14), none, []⟩]
def F.parlkeep5_fails_1.r5 : List DOp := [
  ⟨some 15, .mv (.tmp 5), none, []⟩,
  ⟨some 16, .mv (.tmp 7), none, []⟩,
  ⟨some 17, .bin .add (.tmp 16) (.const (.int .i64 1)), none, []⟩,
  ⟨some 18, .mv (.tmp 6), none, []⟩,
  ⟨some 19, .load 1 false (.tmp 1), none, []⟩,
  ⟨some 20, .bin .add (.tmp 18) (.tmp 19), none, []⟩,
  ⟨some 21, .bin .mul (.tmp 17) (.tmp 20), none, []⟩,
  ⟨some 22, .bin .add (.tmp 15) (.tmp 21), none, []⟩,
  ⟨some 5, .mv (.tmp 22), none, []⟩]
def F.parlkeep5_fails_1.r6 : List DOp := [
  ⟨some 23, .bin .add (.tmp 10) (.const (.int .i64 1)), none, []⟩,
  ⟨some 10, .mv (.tmp 23), none, []⟩]
def F.parlkeep5_fails_1.L0 : ACode := .seq (.region F.parlkeep5_fails_1.r3) (.seq (.cond (.tmp 11) (.skip) (.exit 0)) (.seq (.block 1 (.seq (.region F.parlkeep5_fails_1.r4) (.region F.parlkeep5_fails_1.r5))) (.region F.parlkeep5_fails_1.r6)))
def F.parlkeep5_fails_1.r7 : List DOp := [
  ⟨some 24, .mv (.tmp 5), none, []⟩,
  ⟨some 25, .bin .rem (.tmp 24) (.const (.int .i64 3)), none, []⟩,
  ⟨some 26, .load 1 false (.tmp 2), none, []⟩,
  ⟨some 27, .bin .eql (.tmp 25) (.tmp 26), none, []⟩,
  ⟨some 28, .mv (.tmp 27), none, []⟩,
  ⟨some 29, .mv (.tmp 0), (some (28, false)), []⟩,
  ⟨some 30, .len (.tmp 29), (some (28, false)), []⟩,
  ⟨some 31, .load 1 false (.tmp 1), (some (28, false)), []⟩,
  ⟨some 32, .bin .add (.const (.int .i64 4)) (.tmp 31), (some (28, false)), []⟩,
  ⟨some 33, .bin .gtr (.tmp 30) (.tmp 32), (some (28, false)), []⟩,
  ⟨some 34, .pick (.tmp 28) (.const (.bool true)) (.tmp 33), none, []⟩,
  ⟨some 4, .mv (.tmp 34), none, []⟩]
def F.parlkeep5_fails_1.c : ACode := .seq (.region F.parlkeep5_fails_1.r0) (.seq (.region F.parlkeep5_fails_1.r1) (.seq (.seq (.region F.parlkeep5_fails_1.r2) (.block 0 (.loop F.parlkeep5_fails_1.L0))) (.seq (.region F.parlkeep5_fails_1.r7) (.ret))))
def F.parlkeep5_fails_1 : AFunc := ⟨F.parlkeep5_fails_1.c, [.tmp 4]⟩
end Go.Proofs.Ytbehlbabgomhfaa
