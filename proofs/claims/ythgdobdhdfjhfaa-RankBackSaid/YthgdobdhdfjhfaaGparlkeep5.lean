import Derived.Test.YthgdobdhdfjhfaaI
namespace Go.Proofs.Ythgdobdhdfjhfaa
open Go Go.Ab
def F.parlkeep5_RankBack.r0 : List DOp := [
 Dd 6 (.mv (.const (.bool false)))]
def F.parlkeep5_RankBack.r1 : List DOp := [
 Dd 16 (.mv (.tmp 0)),
 Dd 17 (.call I.parlmake_Grammar [.tmp 16]),
 Dd 7 (.alloc [.int .i64 0, .int .i64 0, .int .i64 0, .slice none 0 0]),
 De (.store 4 (.tmp 7) (.tmp 17))]
def F.parlkeep5_RankBack.r2 : List DOp := [
 Dd 18 (.mv (.tmp 1)),
 Dd 19 (.call I.parlkeep5_below [.tmp 18, .const (.int .i64 8)]),
 Dd 1 (.mv (.tmp 19))]
def F.parlkeep5_RankBack.r3 : List DOp := [
 Dd 21 (.call I.parlkeep5_plain []),
 Dd 22 (.call I.rank_Count [.tmp 21, .const (.int .i64 3)]),
 Dd 20 (.mv (.tmp 22)),
 Dd 23 (.extract (.tmp 20) 0),
 Dd 24 (.extract (.tmp 20) 1),
 Dd 8 (.mv (.tmp 23)),
 Dd 9 (.mv (.tmp 24))]
def F.parlkeep5_RankBack.r4 : List DOp := [
 Dd 25 (.mv (.tmp 8)),
 Dd 26 (.bin .neq (.tmp 25) (.const (.int .i64 1))),
 Dd 27 (.mv (.tmp 26)),
 ⟨some 28, .mv (.tmp 9), (some (27, false)), []⟩,
 ⟨some 29, .bin .neq (.tmp 28) (.const (.int .i64 0)), (some (27, false)), []⟩,
 Dd 30 (.pick (.tmp 27) (.const (.bool true)) (.tmp 29))]
def F.parlkeep5_RankBack.r5 : List DOp := [
 Dd 6 (.mv (.const (.bool false)))]
def F.parlkeep5_RankBack.r6 : List DOp := [
 Dd 32 (.load 4 true (.tmp 7)),
 Dd 33 (.mv (.tmp 1)),
 Dd 34 (.call I.rank_Count [.tmp 32, .tmp 33]),
 Dd 31 (.mv (.tmp 34)),
 Dd 35 (.extract (.tmp 31) 0),
 Dd 36 (.extract (.tmp 31) 1),
 Dd 10 (.mv (.tmp 35)),
 Dd 11 (.mv (.tmp 36))]
def F.parlkeep5_RankBack.r7 : List DOp := [
 Dd 37 (.mv (.tmp 11)),
 Dd 38 (.bin .neq (.tmp 37) (.const (.int .i64 0))),
 Dd 39 (.mv (.tmp 38)),
 ⟨some 40, .mv (.tmp 10), (some (39, false)), []⟩,
 ⟨some 41, .bin .eql (.tmp 40) (.const (.int .i64 0)), (some (39, false)), []⟩,
 Dd 42 (.pick (.tmp 39) (.const (.bool true)) (.tmp 41))]
def F.parlkeep5_RankBack.r8 : List DOp := [
 Dd 6 (.mv (.const (.bool true)))]
def F.parlkeep5_RankBack.r9 : List DOp := [
 Dd 43 (.mv (.tmp 2)),
 Dd 44 (.mv (.tmp 10)),
 Dd 45 (.call I.parlkeep5_below [.tmp 43, .tmp 44]),
 Dd 2 (.mv (.tmp 45))]
def F.parlkeep5_RankBack.r10 : List DOp := [
 Dd 47 (.load 4 true (.tmp 7)),
 Dd 48 (.mv (.tmp 1)),
 Dd 49 (.mv (.tmp 2)),
 Dd 50 (.call I.rank_Tree [.tmp 47, .tmp 48, .tmp 49]),
 Dd 46 (.mv (.tmp 50)),
 Dd 51 (.extract (.tmp 46) 0),
 Dd 52 (.extract (.tmp 46) 1),
 Dd 12 (.alloc [.int .i64 0, .int .i64 0, .slice none 0 0]),
 De (.store 3 (.tmp 12) (.tmp 51)),
 Dd 11 (.mv (.tmp 52))]
def F.parlkeep5_RankBack.r11 : List DOp := [
 Dd 53 (.mv (.tmp 11)),
 Dd 54 (.bin .neq (.tmp 53) (.const (.int .i64 0))),
 Dd 55 (.mv (.tmp 54)),
 ⟨some 56, .load 4 true (.tmp 7), (some (55, false)), []⟩,
 ⟨some 57, .load 3 true (.tmp 12), (some (55, false)), []⟩,
 ⟨some 58, .call I.tree_Check [.tmp 56, .tmp 57], (some (55, false)), []⟩,
 ⟨some 59, .bin .neq (.tmp 58) (.const (.int .i64 0)), (some (55, false)), []⟩,
 Dd 60 (.pick (.tmp 55) (.const (.bool true)) (.tmp 59))]
def F.parlkeep5_RankBack.r12 : List DOp := [
 Dd 6 (.mv (.const (.bool false)))]
def F.parlkeep5_RankBack.r13 : List DOp := [
 Dd 62 (.load 4 true (.tmp 7)),
 Dd 63 (.load 3 true (.tmp 12)),
 Dd 64 (.call I.rank_Of [.tmp 62, .tmp 63]),
 Dd 61 (.mv (.tmp 64)),
 Dd 65 (.extract (.tmp 61) 0),
 Dd 66 (.extract (.tmp 61) 1),
 Dd 67 (.extract (.tmp 61) 2),
 Dd 13 (.mv (.tmp 65)),
 Dd 14 (.mv (.tmp 66)),
 Dd 15 (.mv (.tmp 67))]
def F.parlkeep5_RankBack.r14 : List DOp := [
 Dd 68 (.mv (.tmp 15)),
 Dd 69 (.bin .eql (.tmp 68) (.const (.int .i64 0))),
 Dd 70 (.mv (.tmp 69)),
 ⟨some 71, .mv (.tmp 13), (some (70, true)), []⟩,
 ⟨some 72, .mv (.tmp 1), (some (70, true)), []⟩,
 ⟨some 73, .bin .eql (.tmp 71) (.tmp 72), (some (70, true)), []⟩,
 Dd 74 (.pick (.tmp 70) (.tmp 73) (.const (.bool false))),
 Dd 75 (.mv (.tmp 74)),
 ⟨some 76, .mv (.tmp 14), (some (75, true)), []⟩,
 ⟨some 77, .mv (.tmp 2), (some (75, true)), []⟩,
 ⟨some 78, .bin .eql (.tmp 76) (.tmp 77), (some (75, true)), []⟩,
 Dd 79 (.pick (.tmp 75) (.tmp 78) (.const (.bool false))),
 Dd 6 (.mv (.tmp 79))]
def F.parlkeep5_RankBack.c : ACode := .seq (.region F.parlkeep5_RankBack.r0) (.seq (.region F.parlkeep5_RankBack.r1) (.seq (.region F.parlkeep5_RankBack.r2) (.seq (.seq (.region F.parlkeep5_RankBack.r3) (.seq (.region F.parlkeep5_RankBack.r4) (.cond (.tmp 30) (.seq (.region F.parlkeep5_RankBack.r5) (.ret)) (.skip)))) (.seq (.region F.parlkeep5_RankBack.r6) (.seq (.seq (.region F.parlkeep5_RankBack.r7) (.cond (.tmp 42) (.seq (.region F.parlkeep5_RankBack.r8) (.ret)) (.skip))) (.seq (.region F.parlkeep5_RankBack.r9) (.seq (.region F.parlkeep5_RankBack.r10) (.seq (.seq (.region F.parlkeep5_RankBack.r11) (.cond (.tmp 60) (.seq (.region F.parlkeep5_RankBack.r12) (.ret)) (.skip))) (.seq (.region F.parlkeep5_RankBack.r13) (.seq (.region F.parlkeep5_RankBack.r14) (.ret)))))))))))
def F.parlkeep5_RankBack : AFunc := ⟨F.parlkeep5_RankBack.c, [.tmp 6]⟩
def F.parlkeep5_plain.r0 : List DOp := [
 Dd 0 (.alloc [.int .i64 0, .int .i64 0, .int .i64 0, .slice none 0 0])]
def F.parlkeep5_plain.r1 : List DOp := [
 Dd 1 (.build [.bool false, .int .i64 0] [(0, 1, .const (.bool true))]),
 Dd 2 (.bslice 2 1 [.bool false, .int .i64 0] [(0, 2, .tmp 1)]),
 Dd 3 (.build [.int .i64 0, .slice none 0 0] [(1, 1, .tmp 2)]),
 Dd 4 (.build [.bool false, .int .i64 0] [(0, 1, .const (.bool true)), (1, 1, .const (.int .i64 1))]),
 Dd 5 (.build [.bool false, .int .i64 0] []),
 Dd 6 (.bslice 2 2 [.bool false, .int .i64 0, .bool false, .int .i64 0] [(0, 2, .tmp 4), (2, 2, .tmp 5)]),
 Dd 7 (.build [.int .i64 0, .slice none 0 0] [(1, 1, .tmp 6)]),
 Dd 8 (.bslice 2 2 [.int .i64 0, .slice none 0 0, .int .i64 0, .slice none 0 0] [(0, 2, .tmp 3), (2, 2, .tmp 7)]),
 Dd 9 (.build [.int .i64 0, .int .i64 0, .int .i64 0, .slice none 0 0] [(0, 1, .const (.int .i64 2)), (1, 1, .const (.int .i64 1)), (3, 1, .tmp 8)]),
 De (.store 4 (.tmp 0) (.tmp 9))]
def F.parlkeep5_plain.c : ACode := .seq (.region F.parlkeep5_plain.r0) (.seq (.region F.parlkeep5_plain.r1) (.ret))
def F.parlkeep5_plain : AFunc := ⟨F.parlkeep5_plain.c, [.cell 0 4 true]⟩
def F.parlkeep5_below.r0 : List DOp := [
 Dd 4 (.mv (.const (.int .i64 0)))]
def F.parlkeep5_below.r1 : List DOp := [
 Dd 5 (.mv (.tmp 0)),
 Dd 6 (.mv (.tmp 1)),
 Dd 7 (.call I.parlmake_Below [.tmp 5, .tmp 6]),
 Dd 4 (.mv (.tmp 7))]
def F.parlkeep5_below.c : ACode := .seq (.region F.parlkeep5_below.r0) (.seq (.region F.parlkeep5_below.r1) (.ret))
def F.parlkeep5_below : AFunc := ⟨F.parlkeep5_below.c, [.tmp 4]⟩
end Go.Proofs.Ythgdobdhdfjhfaa
