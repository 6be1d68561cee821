/- The abstract code of package parlkeep5, written by wip/tools/gen.py from the translation. -/
import Derived.Test.YtbehlbabgomhfaaI
namespace Go.Proofs.Ytbehlbabgomhfaa
open Go Go.Ab
/-! parlance/parlkeep5.DrawEach -/
def F.parlkeep5_DrawEach.r0 : List DOp := [
 Dd 4 (.mv (.const (.bool false)))]
def F.parlkeep5_DrawEach.r1 : List DOp := [
 Dd 22 (.mv (.tmp 0)),
 Dd 23 (.call I.parlkeep5_below [.tmp 22, .const (.int .i64 4)]),
 Dd 24 (.mv (.tmp 1)),
 Dd 25 (.call I.parlkeep5_below [.tmp 24, .const (.int .i64 9)]),
 Dd 0 (.mv (.tmp 23)),
 Dd 1 (.mv (.tmp 25))]
def F.parlkeep5_DrawEach.r2 : List DOp := [
 Dd 27 (.bslice 1 1 [.bool false] [(0, 1, .const (.bool false))]),
 Dd 28 (.call I.draw_Order [.const (.int .i64 2), .tmp 27]),
 Dd 26 (.mv (.tmp 28)),
 Dd 29 (.extract (.tmp 26) 0),
 Dd 30 (.extract (.tmp 26) 1),
 Dd 31 (.extract (.tmp 26) 2),
 Dd 5 (.mv (.tmp 29)),
 Dd 6 (.mv (.tmp 30)),
 Dd 7 (.mv (.tmp 31))]
def F.parlkeep5_DrawEach.r3 : List DOp := [
 Dd 32 (.mv (.tmp 7)),
 Dd 33 (.bin .neq (.tmp 32) (.const (.int .i64 0))),
 Dd 34 (.mv (.tmp 33)),
 ⟨some 35, .mv (.tmp 5), (some (34, false)), []⟩,
 ⟨some 36, .len (.tmp 35), (some (34, false)), []⟩,
 ⟨some 37, .bin .neq (.tmp 36) (.const (.int .i64 2)), (some (34, false)), []⟩,
 Dd 38 (.pick (.tmp 34) (.const (.bool true)) (.tmp 37))]
def F.parlkeep5_DrawEach.r4 : List DOp := [
 Dd 4 (.mv (.const (.bool false)))]
def F.parlkeep5_DrawEach.r5 : List DOp := [
 Dd 39 (.mkmap),
 Dd 8 (.mv (.tmp 39))]
def F.parlkeep5_DrawEach.r6 : List DOp := [
 Dd 40 (.mv (.tmp 1)),
 Dd 41 (.call I.parlkeep5_coins [.tmp 40]),
 Dd 42 (.len (.tmp 41)),
 Dd 43 (.mv (.const (.int .i64 0)))]
def F.parlkeep5_DrawEach.r7 : List DOp := [
 Dd 44 (.bin .lss (.tmp 43) (.tmp 42))]
def F.parlkeep5_DrawEach.r8 : List DOp := [
 Dd 45 (.idxs 1 (.tmp 41) (.tmp 43)),
 Dd 46 (.load 1 false (.tmp 45)),
 Dd 10 (.mv (.tmp 46))]
def F.parlkeep5_DrawEach.r9 : List DOp := [
 Dd 48 (.mv (.tmp 0)),
 Dd 49 (.mv (.tmp 10)),
 Dd 50 (.call I.draw_Order [.tmp 48, .tmp 49]),
 Dd 47 (.mv (.tmp 50)),
 Dd 51 (.extract (.tmp 47) 0),
 Dd 52 (.extract (.tmp 47) 1),
 Dd 53 (.extract (.tmp 47) 2),
 Dd 11 (.mv (.tmp 51)),
 Dd 12 (.mv (.tmp 52)),
 Dd 13 (.mv (.tmp 53))]
def F.parlkeep5_DrawEach.r10 : List DOp := [
 Dd 54 (.mv (.tmp 13)),
 Dd 55 (.bin .neq (.tmp 54) (.const (.int .i64 0)))]
def F.parlkeep5_DrawEach.r11 : List DOp := [
 Dd 14 (.mv (.const (.int .i64 0)))]
def F.parlkeep5_DrawEach.r12 : List DOp := [
 Dd 56 (.mv (.tmp 11)),
 Dd 57 (.call I.slices_Clone_int_int [.tmp 56]),
 Dd 15 (.mv (.tmp 57))]
def F.parlkeep5_DrawEach.r13 : List DOp := [
 Dd 58 (.mv (.tmp 15)),
 Dd 59 (.call I.slices_Sort_int_int [.tmp 58])]
def F.parlkeep5_DrawEach.r14 : List DOp := [
 Dd 60 (.mv (.tmp 11)),
 Dd 61 (.len (.tmp 60)),
 Dd 62 (.mv (.const (.int .i64 0)))]
def F.parlkeep5_DrawEach.r15 : List DOp := [
 Dd 63 (.bin .lss (.tmp 62) (.tmp 61))]
def F.parlkeep5_DrawEach.r16 : List DOp := [
 Dd 64 (.mv (.tmp 62)),
 Dd 65 (.idxs 1 (.tmp 60) (.tmp 62)),
 Dd 66 (.load 1 false (.tmp 65)),
 Dd 16 (.mv (.tmp 64)),
 Dd 17 (.mv (.tmp 66))]
def F.parlkeep5_DrawEach.r17 : List DOp := [
 Dd 67 (.mv (.tmp 15)),
 Dd 68 (.mv (.tmp 16)),
 Dd 69 (.idxs 1 (.tmp 67) (.tmp 68)),
 Dd 70 (.load 1 false (.tmp 69)),
 Dd 71 (.mv (.tmp 16)),
 Dd 72 (.bin .neq (.tmp 70) (.tmp 71))]
def F.parlkeep5_DrawEach.r18 : List DOp := [
 Dd 4 (.mv (.const (.bool false)))]
def F.parlkeep5_DrawEach.r19 : List DOp := [
 Dd 73 (.mv (.tmp 14)),
 Dd 74 (.mv (.tmp 0)),
 Dd 75 (.bin .mul (.tmp 73) (.tmp 74)),
 Dd 76 (.mv (.tmp 17)),
 Dd 77 (.bin .add (.tmp 75) (.tmp 76)),
 Dd 14 (.mv (.tmp 77))]
def F.parlkeep5_DrawEach.r20 : List DOp := [
 Dd 78 (.bin .add (.tmp 62) (.const (.int .i64 1))),
 Dd 62 (.mv (.tmp 78))]
def F.parlkeep5_DrawEach.L1 : ACode := .seq (.region F.parlkeep5_DrawEach.r15) (.seq (.cond (.tmp 63) (.skip) (.exit 2)) (.seq (.block 3 (.seq (.region F.parlkeep5_DrawEach.r16) (.seq (.seq (.region F.parlkeep5_DrawEach.r17) (.cond (.tmp 72) (.seq (.region F.parlkeep5_DrawEach.r18) (.ret)) (.skip))) (.region F.parlkeep5_DrawEach.r19)))) (.region F.parlkeep5_DrawEach.r20)))
def F.parlkeep5_DrawEach.r21 : List DOp := [
 Dd 79 (.mv (.tmp 11)),
 Dd 80 (.len (.tmp 79)),
 Dd 81 (.mv (.tmp 0)),
 Dd 82 (.bin .neq (.tmp 80) (.tmp 81))]
def F.parlkeep5_DrawEach.r22 : List DOp := [
 Dd 4 (.mv (.const (.bool false)))]
def F.parlkeep5_DrawEach.r23 : List DOp := [
 Dd 83 (.mv (.tmp 8)),
 Dd 84 (.mv (.tmp 14)),
 Dd 85 (.mlook .int (.int .i64 0) false (.tmp 83) (.tmp 84)),
 Dd 86 (.bin .add (.tmp 85) (.const (.int .i64 1))),
 De (.mset .int (.tmp 83) (.tmp 84) (.tmp 86))]
def F.parlkeep5_DrawEach.r24 : List DOp := [
 Dd 87 (.bin .add (.tmp 43) (.const (.int .i64 1))),
 Dd 43 (.mv (.tmp 87))]
def F.parlkeep5_DrawEach.L0 : ACode := .seq (.region F.parlkeep5_DrawEach.r7) (.seq (.cond (.tmp 44) (.skip) (.exit 0)) (.seq (.block 1 (.seq (.region F.parlkeep5_DrawEach.r8) (.seq (.region F.parlkeep5_DrawEach.r9) (.seq (.seq (.region F.parlkeep5_DrawEach.r10) (.cond (.tmp 55) (.exit 1) (.skip))) (.seq (.region F.parlkeep5_DrawEach.r11) (.seq (.region F.parlkeep5_DrawEach.r12) (.seq (.region F.parlkeep5_DrawEach.r13) (.seq (.seq (.region F.parlkeep5_DrawEach.r14) (.block 2 (.loop F.parlkeep5_DrawEach.L1))) (.seq (.seq (.region F.parlkeep5_DrawEach.r21) (.cond (.tmp 82) (.seq (.region F.parlkeep5_DrawEach.r22) (.ret)) (.skip))) (.region F.parlkeep5_DrawEach.r23)))))))))) (.region F.parlkeep5_DrawEach.r24)))
def F.parlkeep5_DrawEach.r25 : List DOp := [
 Dd 88 (.mv (.tmp 8)),
 Dd 89 (.lenm (.tmp 88)),
 Dd 90 (.bin .eql (.tmp 89) (.const (.int .i64 0)))]
def F.parlkeep5_DrawEach.r26 : List DOp := [
 Dd 4 (.mv (.const (.bool true)))]
def F.parlkeep5_DrawEach.r27 : List DOp := [
 Dd 18 (.mv (.const (.int .i64 1099511627776))),
 Dd 19 (.mv (.const (.int .i64 0)))]
def F.parlkeep5_DrawEach.r28 : List DOp := [
 Dd 91 (.mv (.tmp 8))]
def F.parlkeep5_DrawEach.m28 : MapR := ⟨(.tmp 91), 92, 93, 94, 95, 96, [
 Dd 21 (.mv (.tmp 96)),
 Dd 97 (.mv (.tmp 18)),
 Dd 98 (.mv (.tmp 21)),
 Dd 99 (.mm false [.tmp 97, .tmp 98]),
 Dd 100 (.mv (.tmp 19)),
 Dd 101 (.mv (.tmp 21)),
 Dd 102 (.mm true [.tmp 100, .tmp 101]),
 Dd 18 (.mv (.tmp 99)),
 Dd 19 (.mv (.tmp 102))]⟩
def F.parlkeep5_DrawEach.r32 : List DOp := [
 Dd 103 (.mv (.tmp 18)),
 Dd 104 (.mv (.tmp 19)),
 Dd 105 (.bin .eql (.tmp 103) (.tmp 104)),
 Dd 106 (.mv (.tmp 105)),
 ⟨some 107, .mv (.tmp 8), (some (106, true)), []⟩,
 ⟨some 108, .lenm (.tmp 107), (some (106, true)), []⟩,
 ⟨some 109, .bslice 1 4 [.int .i64 0, .int .i64 0, .int .i64 0, .int .i64 0] [(0, 1, .const (.int .i64 1)), (1, 1, .const (.int .i64 1)), (2, 1, .const (.int .i64 2)), (3, 1, .const (.int .i64 6))], (some (106, true)), []⟩,
 ⟨some 110, .mv (.tmp 0), (some (106, true)), []⟩,
 ⟨some 111, .idxs 1 (.tmp 109) (.tmp 110), (some (106, true)), []⟩,
 ⟨some 112, .load 1 false (.tmp 111), (some (106, true)), [6]⟩,
 ⟨some 113, .bin .eql (.tmp 108) (.tmp 112), (some (106, true)), []⟩,
 Dd 114 (.pick (.tmp 106) (.tmp 113) (.const (.bool false))),
 Dd 4 (.mv (.tmp 114))]
def F.parlkeep5_DrawEach.c : ACode := .seq (.region F.parlkeep5_DrawEach.r0) (.seq (.region F.parlkeep5_DrawEach.r1) (.seq (.seq (.region F.parlkeep5_DrawEach.r2) (.seq (.region F.parlkeep5_DrawEach.r3) (.cond (.tmp 38) (.seq (.region F.parlkeep5_DrawEach.r4) (.ret)) (.skip)))) (.seq (.region F.parlkeep5_DrawEach.r5) (.seq (.seq (.region F.parlkeep5_DrawEach.r6) (.block 0 (.loop F.parlkeep5_DrawEach.L0))) (.seq (.seq (.region F.parlkeep5_DrawEach.r25) (.cond (.tmp 90) (.seq (.region F.parlkeep5_DrawEach.r26) (.ret)) (.skip))) (.seq (.region F.parlkeep5_DrawEach.r27) (.seq (.seq (.region F.parlkeep5_DrawEach.r28) (.mapr F.parlkeep5_DrawEach.m28)) (.seq (.draw F.parlkeep5_DrawEach.r32 []) (.ret)))))))))
def F.parlkeep5_DrawEach : AFunc := ⟨F.parlkeep5_DrawEach.c, [.tmp 4]⟩
/-! parlance/parlkeep5.below -/
def F.parlkeep5_below.r0 : List DOp := [
 Dd 4 (.mv (.const (.int .i64 0)))]
def F.parlkeep5_below.r1 : List DOp := [
 Dd 5 (.mv (.tmp 0)),
 Dd 6 (.mv (.tmp 1)),
 Dd 7 (.call I.parlmake_Below [.tmp 5, .tmp 6]),
 Dd 4 (.mv (.tmp 7))]
def F.parlkeep5_below.c : ACode := .seq (.region F.parlkeep5_below.r0) (.seq (.region F.parlkeep5_below.r1) (.ret))
def F.parlkeep5_below : AFunc := ⟨F.parlkeep5_below.c, [.tmp 4]⟩
/-! parlance/parlkeep5.coins -/
def F.parlkeep5_coins.r0 : List DOp := [
 Dd 2 (.mv (.const (.slice none 0 0)))]
def F.parlkeep5_coins.r1 : List DOp := [
 Dd 7 (.bslice 1 1 [.slice none 0 0] [(0, 1, .const (.slice none 0 0))]),
 Dd 3 (.mv (.tmp 7))]
def F.parlkeep5_coins.r2 : List DOp := [
 Dd 8 (.mv (.tmp 0)),
 Dd 9 (.mv (.const (.int .i64 0)))]
def F.parlkeep5_coins.r3 : List DOp := [
 Dd 10 (.bin .lss (.tmp 9) (.tmp 8))]
def F.parlkeep5_coins.r4 : List DOp := [
 Dd 4 (.mv (.const (.slice none 0 0)))]
def F.parlkeep5_coins.r5 : List DOp := [
 Dd 11 (.mv (.tmp 3)),
 Dd 12 (.len (.tmp 11)),
 Dd 13 (.mv (.const (.int .i64 0)))]
def F.parlkeep5_coins.r6 : List DOp := [
 Dd 14 (.bin .lss (.tmp 13) (.tmp 12))]
def F.parlkeep5_coins.r7 : List DOp := [
 Dd 15 (.idxs 1 (.tmp 11) (.tmp 13)),
 Dd 16 (.load 1 false (.tmp 15)),
 Dd 6 (.mv (.tmp 16))]
def F.parlkeep5_coins.r8 : List DOp := [
 Dd 17 (.mv (.tmp 4)),
 Dd 18 (.mv (.tmp 6)),
 Dd 19 (.call I.slices_Clone_bool_bool [.tmp 18]),
 Dd 20 (.bslice 1 1 [.bool false] [(0, 1, .const (.bool false))]),
 Dd 21 (.append 1 1 (.tmp 19) (.tmp 20)),
 Dd 22 (.mv (.tmp 6)),
 Dd 23 (.call I.slices_Clone_bool_bool [.tmp 22]),
 Dd 24 (.bslice 1 1 [.bool false] [(0, 1, .const (.bool true))]),
 Dd 25 (.append 1 1 (.tmp 23) (.tmp 24)),
 Dd 26 (.bslice 1 2 [.slice none 0 0, .slice none 0 0] [(0, 1, .tmp 21), (1, 1, .tmp 25)]),
 Dd 27 (.append 1 24 (.tmp 17) (.tmp 26)),
 Dd 4 (.mv (.tmp 27))]
def F.parlkeep5_coins.r9 : List DOp := [
 Dd 28 (.bin .add (.tmp 13) (.const (.int .i64 1))),
 Dd 13 (.mv (.tmp 28))]
def F.parlkeep5_coins.L1 : ACode := .seq (.region F.parlkeep5_coins.r6) (.seq (.cond (.tmp 14) (.skip) (.exit 2)) (.seq (.block 3 (.seq (.region F.parlkeep5_coins.r7) (.region F.parlkeep5_coins.r8))) (.region F.parlkeep5_coins.r9)))
def F.parlkeep5_coins.r10 : List DOp := [
 Dd 29 (.mv (.tmp 4)),
 Dd 3 (.mv (.tmp 29))]
def F.parlkeep5_coins.r11 : List DOp := [
 Dd 30 (.bin .add (.tmp 9) (.const (.int .i64 1))),
 Dd 9 (.mv (.tmp 30))]
def F.parlkeep5_coins.L0 : ACode := .seq (.region F.parlkeep5_coins.r3) (.seq (.cond (.tmp 10) (.skip) (.exit 0)) (.seq (.block 1 (.seq (.region F.parlkeep5_coins.r4) (.seq (.seq (.region F.parlkeep5_coins.r5) (.block 2 (.loop F.parlkeep5_coins.L1))) (.region F.parlkeep5_coins.r10)))) (.region F.parlkeep5_coins.r11)))
def F.parlkeep5_coins.r12 : List DOp := [
 Dd 31 (.mv (.tmp 3)),
 Dd 2 (.mv (.tmp 31))]
def F.parlkeep5_coins.c : ACode := .seq (.region F.parlkeep5_coins.r0) (.seq (.region F.parlkeep5_coins.r1) (.seq (.seq (.region F.parlkeep5_coins.r2) (.block 0 (.loop F.parlkeep5_coins.L0))) (.seq (.region F.parlkeep5_coins.r12) (.ret))))
def F.parlkeep5_coins : AFunc := ⟨F.parlkeep5_coins.c, [.tmp 2]⟩
end Go.Proofs.Ytbehlbabgomhfaa
