/- The abstract code of package parlkeep5, written by wip/tools/gen.py from the translation. -/
import Derived.Test.YtbehlbabgomhfaaI
namespace Go.Proofs.Ytbehlbabgomhfaa
open Go Go.Ab
/-! parlance/parlkeep5.DrawMore -/
def F.parlkeep5_DrawMore.r0 : List DOp := [
 Dd 6 (.mv (.const (.bool false)))]
def F.parlkeep5_DrawMore.r1 : List DOp := [
 Dd 19 (.mv (.tmp 0)),
 Dd 20 (.call I.parlkeep5_below [.tmp 19, .const (.int .i64 100)]),
 Dd 21 (.bin .add (.const (.int .i64 1)) (.tmp 20)),
 Dd 0 (.mv (.tmp 21))]
def F.parlkeep5_DrawMore.r2 : List DOp := [
 Dd 23 (.bslice 1 1 [.bool false] [(0, 1, .const (.bool true))]),
 Dd 24 (.call I.draw_Number [.const (.int .i64 2), .tmp 23]),
 Dd 22 (.mv (.tmp 24)),
 Dd 25 (.extract (.tmp 22) 0),
 Dd 26 (.extract (.tmp 22) 1),
 Dd 27 (.extract (.tmp 22) 2),
 Dd 7 (.mv (.tmp 25)),
 Dd 8 (.mv (.tmp 26)),
 Dd 9 (.mv (.tmp 27))]
def F.parlkeep5_DrawMore.r3 : List DOp := [
 Dd 28 (.mv (.tmp 7)),
 Dd 29 (.bin .neq (.tmp 28) (.const (.int .i64 1))),
 Dd 30 (.mv (.tmp 29)),
 ⟨some 31, .mv (.tmp 9), (some (30, false)), []⟩,
 ⟨some 32, .bin .neq (.tmp 31) (.const (.int .i64 0)), (some (30, false)), []⟩,
 Dd 33 (.pick (.tmp 30) (.const (.bool true)) (.tmp 32))]
def F.parlkeep5_DrawMore.r4 : List DOp := [
 Dd 6 (.mv (.const (.bool false)))]
def F.parlkeep5_DrawMore.r5 : List DOp := [
 Dd 35 (.mv (.tmp 0)),
 Dd 36 (.mv (.tmp 1)),
 Dd 37 (.call I.draw_Number [.tmp 35, .tmp 36]),
 Dd 34 (.mv (.tmp 37)),
 Dd 38 (.extract (.tmp 34) 0),
 Dd 39 (.extract (.tmp 34) 1),
 Dd 40 (.extract (.tmp 34) 2),
 Dd 10 (.mv (.tmp 38)),
 Dd 11 (.mv (.tmp 39)),
 Dd 12 (.mv (.tmp 40))]
def F.parlkeep5_DrawMore.r6 : List DOp := [
 Dd 41 (.mv (.tmp 12)),
 Dd 42 (.bin .neq (.tmp 41) (.const (.int .i64 0)))]
def F.parlkeep5_DrawMore.r7 : List DOp := [
 Dd 43 (.mv (.tmp 12)),
 Dd 44 (.bin .eql (.tmp 43) (.const (.int .i64 5))),
 Dd 45 (.mv (.tmp 44)),
 ⟨some 46, .mv (.tmp 11), (some (45, true)), []⟩,
 ⟨some 47, .bin .eql (.tmp 46) (.const (.int .i64 0)), (some (45, true)), []⟩,
 Dd 48 (.pick (.tmp 45) (.tmp 47) (.const (.bool false))),
 Dd 6 (.mv (.tmp 48))]
def F.parlkeep5_DrawMore.r8 : List DOp := [
 Dd 49 (.mv (.tmp 11)),
 Dd 50 (.bin .lss (.tmp 49) (.const (.int .i64 0))),
 Dd 51 (.mv (.tmp 50)),
 ⟨some 52, .mv (.tmp 11), (some (51, false)), []⟩,
 ⟨some 53, .mv (.tmp 1), (some (51, false)), []⟩,
 ⟨some 54, .len (.tmp 53), (some (51, false)), []⟩,
 ⟨some 55, .bin .gtr (.tmp 52) (.tmp 54), (some (51, false)), []⟩,
 Dd 56 (.pick (.tmp 51) (.const (.bool true)) (.tmp 55))]
def F.parlkeep5_DrawMore.r9 : List DOp := [
 Dd 6 (.mv (.const (.bool false)))]
def F.parlkeep5_DrawMore.r10 : List DOp := [
 Dd 58 (.mv (.tmp 0)),
 Dd 59 (.mv (.tmp 1)),
 Dd 60 (.mv (.tmp 11)),
 Dd 61 (.slice 1 (.tmp 59) none (some (.tmp 60))),
 Dd 62 (.mv (.tmp 2)),
 Dd 63 (.bslice 1 2 [.slice none 0 0, .slice none 0 0] [(0, 1, .tmp 61), (1, 1, .tmp 62)]),
 Dd 64 (.call I.slices_Concat_bool_bool [.tmp 63]),
 Dd 65 (.call I.draw_Number [.tmp 58, .tmp 64]),
 Dd 57 (.mv (.tmp 65)),
 Dd 66 (.extract (.tmp 57) 0),
 Dd 67 (.extract (.tmp 57) 1),
 Dd 68 (.extract (.tmp 57) 2),
 Dd 13 (.mv (.tmp 66)),
 Dd 14 (.mv (.tmp 67)),
 Dd 15 (.mv (.tmp 68))]
def F.parlkeep5_DrawMore.r11 : List DOp := [
 Dd 69 (.mv (.tmp 15)),
 Dd 70 (.bin .neq (.tmp 69) (.const (.int .i64 0))),
 Dd 71 (.mv (.tmp 70)),
 ⟨some 72, .mv (.tmp 10), (some (71, false)), []⟩,
 ⟨some 73, .mv (.tmp 13), (some (71, false)), []⟩,
 ⟨some 74, .bin .neq (.tmp 72) (.tmp 73), (some (71, false)), []⟩,
 Dd 75 (.pick (.tmp 71) (.const (.bool true)) (.tmp 74)),
 Dd 76 (.mv (.tmp 75)),
 ⟨some 77, .mv (.tmp 14), (some (76, false)), []⟩,
 ⟨some 78, .mv (.tmp 11), (some (76, false)), []⟩,
 ⟨some 79, .bin .neq (.tmp 77) (.tmp 78), (some (76, false)), []⟩,
 Dd 80 (.pick (.tmp 76) (.const (.bool true)) (.tmp 79))]
def F.parlkeep5_DrawMore.r12 : List DOp := [
 Dd 6 (.mv (.const (.bool false)))]
def F.parlkeep5_DrawMore.r13 : List DOp := [
 Dd 81 (.mv (.tmp 11)),
 Dd 82 (.bin .eql (.tmp 81) (.const (.int .i64 0)))]
def F.parlkeep5_DrawMore.r14 : List DOp := [
 Dd 6 (.mv (.const (.bool true)))]
def F.parlkeep5_DrawMore.r15 : List DOp := [
 Dd 84 (.mv (.tmp 0)),
 Dd 85 (.mv (.tmp 1)),
 Dd 86 (.mv (.tmp 11)),
 Dd 87 (.bin .sub (.tmp 86) (.const (.int .i64 1))),
 Dd 88 (.slice 1 (.tmp 85) none (some (.tmp 87))),
 Dd 89 (.call I.draw_Number [.tmp 84, .tmp 88]),
 Dd 83 (.mv (.tmp 89)),
 Dd 90 (.extract (.tmp 83) 0),
 Dd 91 (.extract (.tmp 83) 1),
 Dd 92 (.extract (.tmp 83) 2),
 Dd 16 (.mv (.tmp 90)),
 Dd 17 (.mv (.tmp 91)),
 Dd 18 (.mv (.tmp 92))]
def F.parlkeep5_DrawMore.r16 : List DOp := [
 Dd 93 (.mv (.tmp 18)),
 Dd 94 (.bin .eql (.tmp 93) (.const (.int .i64 5))),
 Dd 6 (.mv (.tmp 94))]
def F.parlkeep5_DrawMore.c : ACode := .seq (.region F.parlkeep5_DrawMore.r0) (.seq (.region F.parlkeep5_DrawMore.r1) (.seq (.seq (.region F.parlkeep5_DrawMore.r2) (.seq (.region F.parlkeep5_DrawMore.r3) (.cond (.tmp 33) (.seq (.region F.parlkeep5_DrawMore.r4) (.ret)) (.skip)))) (.seq (.region F.parlkeep5_DrawMore.r5) (.seq (.seq (.region F.parlkeep5_DrawMore.r6) (.cond (.tmp 42) (.seq (.region F.parlkeep5_DrawMore.r7) (.ret)) (.skip))) (.seq (.seq (.region F.parlkeep5_DrawMore.r8) (.cond (.tmp 56) (.seq (.region F.parlkeep5_DrawMore.r9) (.ret)) (.skip))) (.seq (.region F.parlkeep5_DrawMore.r10) (.seq (.seq (.region F.parlkeep5_DrawMore.r11) (.cond (.tmp 80) (.seq (.region F.parlkeep5_DrawMore.r12) (.ret)) (.skip))) (.seq (.seq (.region F.parlkeep5_DrawMore.r13) (.cond (.tmp 82) (.seq (.region F.parlkeep5_DrawMore.r14) (.ret)) (.skip))) (.seq (.region F.parlkeep5_DrawMore.r15) (.seq (.region F.parlkeep5_DrawMore.r16) (.ret)))))))))))
def F.parlkeep5_DrawMore : AFunc := ⟨F.parlkeep5_DrawMore.c, [.tmp 6]⟩
/-! parlance/parlkeep5.below -/
def F.parlkeep5_below.r0 : List DOp := [
 Dd 4 (.mv (.const (.int .i64 0)))]
def F.parlkeep5_below.r1 : List DOp := [
 Dd 5 (.mv (.tmp 0)),
 Dd 6 (.mv (.tmp 1)),
 Dd 7 (.call I.parlmake_Below [.tmp 5, .tmp 6]),
 Dd 4 (.mv (.tmp 7))]
def F.parlkeep5_below.c : ACode := .seq (.region F.parlkeep5_below.r0) (.seq (.region F.parlkeep5_below.r1) (.ret))
def F.parlkeep5_below : AFunc := ⟨F.parlkeep5_below.c, [.tmp 4]⟩
end Go.Proofs.Ytbehlbabgomhfaa
