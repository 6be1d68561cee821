import Derived.Test.YtmeigkelacoibaaI
namespace Go.Proofs.Ytmeigkelacoibaa
open Go Go.Ab
def F.parlkeep5_DrawTree.r0 : List DOp := [
 Dd 6 (.mv (.const (.bool false)))]
def F.parlkeep5_DrawTree.r1 : List DOp := [
 Dd 21 (.mv (.tmp 0)),
 Dd 22 (.call I.parlmake_Grammar [.tmp 21]),
 Dd 7 (.alloc [.int .i64 0, .int .i64 0, .int .i64 0, .slice none 0 0]),
 De (.store 4 (.tmp 7) (.tmp 22))]
def F.parlkeep5_DrawTree.r2 : List DOp := [
 Dd 23 (.mv (.tmp 1)),
 Dd 24 (.call I.parlkeep5_below [.tmp 23, .const (.int .i64 8)]),
 Dd 1 (.mv (.tmp 24))]
def F.parlkeep5_DrawTree.r3 : List DOp := [
 Dd 26 (.call I.parlkeep5_plain []),
 Dd 27 (.call I.draw_Tree [.tmp 26, .const (.int .i64 1), .const (.slice none 0 0)]),
 Dd 25 (.mv (.tmp 27)),
 Dd 28 (.extract (.tmp 25) 0),
 Dd 29 (.extract (.tmp 25) 1),
 Dd 30 (.extract (.tmp 25) 2),
 Dd 8 (.alloc [.int .i64 0, .int .i64 0, .slice none 0 0]),
 De (.store 3 (.tmp 8) (.tmp 28)),
 Dd 9 (.mv (.tmp 29)),
 Dd 10 (.mv (.tmp 30))]
def F.parlkeep5_DrawTree.r4 : List DOp := [
 Dd 31 (.mv (.tmp 10)),
 Dd 32 (.bin .neq (.tmp 31) (.const (.int .i64 0))),
 Dd 33 (.mv (.tmp 32)),
 ⟨some 34, .faddr 2 (.tmp 8), (some (33, false)), []⟩,
 ⟨some 35, .load 1 false (.tmp 34), (some (33, false)), []⟩,
 ⟨some 36, .len (.tmp 35), (some (33, false)), []⟩,
 ⟨some 37, .bin .neq (.tmp 36) (.const (.int .i64 1)), (some (33, false)), []⟩,
 Dd 38 (.pick (.tmp 33) (.const (.bool true)) (.tmp 37))]
def F.parlkeep5_DrawTree.r5 : List DOp := [
 Dd 6 (.mv (.const (.bool false)))]
def F.parlkeep5_DrawTree.r6 : List DOp := [
 Dd 40 (.load 4 true (.tmp 7)),
 Dd 41 (.mv (.tmp 1)),
 Dd 42 (.mv (.tmp 2)),
 Dd 43 (.call I.draw_Tree [.tmp 40, .tmp 41, .tmp 42]),
 Dd 39 (.mv (.tmp 43)),
 Dd 44 (.extract (.tmp 39) 0),
 Dd 45 (.extract (.tmp 39) 1),
 Dd 46 (.extract (.tmp 39) 2),
 Dd 11 (.alloc [.int .i64 0, .int .i64 0, .slice none 0 0]),
 De (.store 3 (.tmp 11) (.tmp 44)),
 Dd 12 (.mv (.tmp 45)),
 Dd 13 (.mv (.tmp 46))]
def F.parlkeep5_DrawTree.r7 : List DOp := [
 Dd 47 (.mv (.tmp 13)),
 Dd 48 (.bin .neq (.tmp 47) (.const (.int .i64 0)))]
def F.parlkeep5_DrawTree.r8 : List DOp := [
 Dd 49 (.mv (.tmp 12)),
 Dd 50 (.bin .eql (.tmp 49) (.const (.int .i64 0))),
 Dd 6 (.mv (.tmp 50))]
def F.parlkeep5_DrawTree.r9 : List DOp := [
 Dd 52 (.load 4 true (.tmp 7)),
 Dd 53 (.mv (.tmp 1)),
 Dd 54 (.call I.rank_Count [.tmp 52, .tmp 53]),
 Dd 51 (.mv (.tmp 54)),
 Dd 55 (.extract (.tmp 51) 0),
 Dd 56 (.extract (.tmp 51) 1),
 Dd 14 (.mv (.tmp 55)),
 Dd 15 (.mv (.tmp 56))]
def F.parlkeep5_DrawTree.r10 : List DOp := [
 Dd 58 (.mv (.tmp 14)),
 Dd 59 (.mv (.tmp 2)),
 Dd 60 (.call I.draw_Number [.tmp 58, .tmp 59]),
 Dd 57 (.mv (.tmp 60)),
 Dd 61 (.extract (.tmp 57) 0),
 Dd 62 (.extract (.tmp 57) 1),
 Dd 63 (.extract (.tmp 57) 2),
 Dd 16 (.mv (.tmp 61)),
 Dd 17 (.mv (.tmp 62)),
 Dd 18 (.mv (.tmp 63))]
def F.parlkeep5_DrawTree.r11 : List DOp := [
 Dd 65 (.load 4 true (.tmp 7)),
 Dd 66 (.mv (.tmp 1)),
 Dd 67 (.mv (.tmp 16)),
 Dd 68 (.call I.rank_Tree [.tmp 65, .tmp 66, .tmp 67]),
 Dd 64 (.mv (.tmp 68)),
 Dd 69 (.extract (.tmp 64) 0),
 Dd 70 (.extract (.tmp 64) 1),
 Dd 19 (.alloc [.int .i64 0, .int .i64 0, .slice none 0 0]),
 De (.store 3 (.tmp 19) (.tmp 69)),
 Dd 20 (.mv (.tmp 70))]
def F.parlkeep5_DrawTree.r12 : List DOp := [
 Dd 71 (.load 4 true (.tmp 7)),
 Dd 72 (.load 3 true (.tmp 11)),
 Dd 73 (.call I.tree_Check [.tmp 71, .tmp 72]),
 Dd 74 (.bin .eql (.tmp 73) (.const (.int .i64 0))),
 Dd 75 (.mv (.tmp 74)),
 ⟨some 76, .load 3 true (.tmp 11), (some (75, true)), []⟩,
 ⟨some 77, .call I.tree_Word [.tmp 76], (some (75, true)), []⟩,
 ⟨some 78, .len (.tmp 77), (some (75, true)), []⟩,
 ⟨some 79, .mv (.tmp 1), (some (75, true)), []⟩,
 ⟨some 80, .bin .eql (.tmp 78) (.tmp 79), (some (75, true)), []⟩,
 Dd 81 (.pick (.tmp 75) (.tmp 80) (.const (.bool false))),
 Dd 82 (.mv (.tmp 81)),
 ⟨some 83, .mv (.tmp 18), (some (82, true)), []⟩,
 ⟨some 84, .bin .eql (.tmp 83) (.const (.int .i64 0)), (some (82, true)), []⟩,
 Dd 85 (.pick (.tmp 82) (.tmp 84) (.const (.bool false))),
 Dd 86 (.mv (.tmp 85)),
 ⟨some 87, .mv (.tmp 20), (some (86, true)), []⟩,
 ⟨some 88, .bin .eql (.tmp 87) (.const (.int .i64 0)), (some (86, true)), []⟩,
 Dd 89 (.pick (.tmp 86) (.tmp 88) (.const (.bool false))),
 Dd 90 (.mv (.tmp 89)),
 ⟨some 91, .mv (.tmp 17), (some (90, true)), []⟩,
 ⟨some 92, .mv (.tmp 12), (some (90, true)), []⟩,
 ⟨some 93, .bin .eql (.tmp 91) (.tmp 92), (some (90, true)), []⟩,
 Dd 94 (.pick (.tmp 90) (.tmp 93) (.const (.bool false))),
 Dd 95 (.mv (.tmp 94)),
 ⟨some 96, .load 3 true (.tmp 11), (some (95, true)), []⟩,
 ⟨some 97, .load 3 true (.tmp 19), (some (95, true)), []⟩,
 ⟨some 98, .call I.tree_Compare [.tmp 96, .tmp 97], (some (95, true)), []⟩,
 ⟨some 99, .bin .eql (.tmp 98) (.const (.int .i64 0)), (some (95, true)), []⟩,
 Dd 100 (.pick (.tmp 95) (.tmp 99) (.const (.bool false))),
 Dd 6 (.mv (.tmp 100))]
def F.parlkeep5_DrawTree.c : ACode := .seq (.region F.parlkeep5_DrawTree.r0) (.seq (.region F.parlkeep5_DrawTree.r1) (.seq (.region F.parlkeep5_DrawTree.r2) (.seq (.seq (.region F.parlkeep5_DrawTree.r3) (.seq (.region F.parlkeep5_DrawTree.r4) (.cond (.tmp 38) (.seq (.region F.parlkeep5_DrawTree.r5) (.ret)) (.skip)))) (.seq (.region F.parlkeep5_DrawTree.r6) (.seq (.seq (.region F.parlkeep5_DrawTree.r7) (.cond (.tmp 48) (.seq (.region F.parlkeep5_DrawTree.r8) (.ret)) (.skip))) (.seq (.region F.parlkeep5_DrawTree.r9) (.seq (.region F.parlkeep5_DrawTree.r10) (.seq (.region F.parlkeep5_DrawTree.r11) (.seq (.region F.parlkeep5_DrawTree.r12) (.ret))))))))))
def F.parlkeep5_DrawTree : AFunc := ⟨F.parlkeep5_DrawTree.c, [.tmp 6]⟩
def F.parlkeep5_below.r0 : List DOp := [
 Dd 4 (.mv (.const (.int .i64 0)))]
def F.parlkeep5_below.r1 : List DOp := [
 Dd 5 (.mv (.tmp 0)),
 Dd 6 (.mv (.tmp 1)),
 Dd 7 (.call I.parlmake_Below [.tmp 5, .tmp 6]),
 Dd 4 (.mv (.tmp 7))]
def F.parlkeep5_below.c : ACode := .seq (.region F.parlkeep5_below.r0) (.seq (.region F.parlkeep5_below.r1) (.ret))
def F.parlkeep5_below : AFunc := ⟨F.parlkeep5_below.c, [.tmp 4]⟩
def F.parlkeep5_plain.r0 : List DOp := [
 Dd 0 (.alloc [.int .i64 0, .int .i64 0, .int .i64 0, .slice none 0 0])]
def F.parlkeep5_plain.r1 : List DOp := [
 Dd 1 (.build [.bool false, .int .i64 0] [(0, 1, .const (.bool true))]),
 Dd 2 (.bslice 2 1 [.bool false, .int .i64 0] [(0, 2, .tmp 1)]),
 Dd 3 (.build [.int .i64 0, .slice none 0 0] [(1, 1, .tmp 2)]),
 Dd 4 (.build [.bool false, .int .i64 0] [(0, 1, .const (.bool true)), (1, 1, .const (.int .i64 1))]),
 Dd 5 (.build [.bool false, .int .i64 0] []),
 Dd 6 (.bslice 2 2 [.bool false, .int .i64 0, .bool false, .int .i64 0] [(0, 2, .tmp 4), (2, 2, .tmp 5)]),
 Dd 7 (.build [.int .i64 0, .slice none 0 0] [(1, 1, .tmp 6)]),
 Dd 8 (.bslice 2 2 [.int .i64 0, .slice none 0 0, .int .i64 0, .slice none 0 0] [(0, 2, .tmp 3), (2, 2, .tmp 7)]),
 Dd 9 (.build [.int .i64 0, .int .i64 0, .int .i64 0, .slice none 0 0] [(0, 1, .const (.int .i64 2)), (1, 1, .const (.int .i64 1)), (3, 1, .tmp 8)]),
 De (.store 4 (.tmp 0) (.tmp 9))]
def F.parlkeep5_plain.c : ACode := .seq (.region F.parlkeep5_plain.r0) (.seq (.region F.parlkeep5_plain.r1) (.ret))
def F.parlkeep5_plain : AFunc := ⟨F.parlkeep5_plain.c, [.cell 0 4 true]⟩
end Go.Proofs.Ytmeigkelacoibaa
