/- The abstract code of package parlkeep5, written by wip/tools/gen.py from the translation. -/
import Derived.Test.YtbehlbabgomhfaaI
namespace Go.Proofs.Ytbehlbabgomhfaa
open Go Go.Ab
/-! parlance/parlkeep5.TeachKeeps -/
def F.parlkeep5_TeachKeeps.r0 : List DOp := [
  ⟨some 4, .mv (.const (.bool false)), none, []⟩]
def F.parlkeep5_TeachKeeps.r1 : List DOp := [
  ⟨some 15, .mv (.tmp 0), none, []⟩,
  ⟨some 16, .call I.parlmake_Dfa [.tmp 15], none, []⟩,
  ⟨some 5, .alloc [.int .i64 0, .slice none 0 0, .slice none 0 0], none, []⟩,
  ⟨none, .store 3 (.tmp 5) (.tmp 16), none, []⟩]
def F.parlkeep5_TeachKeeps.r2 : List DOp := [
  ⟨some 18, .load 3 true (.tmp 5), none, []⟩,
  ⟨some 19, .call I.teach_New [.tmp 18], none, []⟩,
  ⟨some 17, .mv (.tmp 19), none, []⟩,
  ⟨some 20, .extract (.tmp 17) 0, none, []⟩,
  ⟨some 21, .extract (.tmp 17) 1, none, []⟩,
  ⟨some 6, .mv (.tmp 20), none, []⟩,
  ⟨some 7, .mv (.tmp 21), none, []⟩]
def F.parlkeep5_TeachKeeps.r3 : List DOp := [
  ⟨some 22, .mv (.tmp 7), none, []⟩,
  ⟨some 23, .bin .neq (.tmp 22) (.const (.int .i64 0)), none, []⟩,
  ⟨some 24, .mv (.tmp 23), none, []⟩,
  ⟨some 25, .mv (.tmp 6), (some (24, false)), []⟩,
  ⟨some 26, .eq false .ptr (.tmp 25) (.const (.pointer none)), (some (24, false)), []⟩,
  ⟨some 27, .pick (.tmp 24) (.const (.bool true)) (.tmp 26), none, []⟩,
  ⟨some 28, .mv (.tmp 27), none, []⟩,
  ⟨some 29, .mv (.tmp 6), (some (28, false)), []⟩,
  ⟨some 30, .call I.teach_Teacher_Symbols [.tmp 29], (some (28, false)), []⟩,
  ⟨some 31, .faddr 2 (.tmp 5), (some (28, false)), []⟩,
  ⟨some 32, .load 1 false (.tmp 31), (some (28, false)), []⟩,
  ⟨some 33, .idxs 1 (.tmp 32) (.const (.int .i64 0)), (some (28, false)), []⟩,
  ⟨some 34, .load 1 false (.tmp 33), (some (28, false)), []⟩,
  ⟨some 35, .len (.tmp 34), (some (28, false)), []⟩,
  ⟨some 36, .bin .neq (.tmp 30) (.tmp 35), (some (28, false)), []⟩,
  ⟨some 37, .pick (.tmp 28) (.const (.bool true)) (.tmp 36), none, []⟩]
def F.parlkeep5_TeachKeeps.r4 : List DOp := [
  ⟨some 4, .mv (.const (.bool false)), none, []⟩]
def F.parlkeep5_TeachKeeps.r5 : List DOp := [
  ⟨some 38, .mv (.tmp 6), none, []⟩,
  ⟨some 39, .call I.teach_Teacher_Symbols [.tmp 38], none, []⟩,
  ⟨some 40, .mv (.tmp 1), none, []⟩,
  ⟨some 41, .call I.parlmake_Word [.tmp 39, .const (.int .i64 20), .tmp 40], none, []⟩,
  ⟨some 8, .mv (.tmp 41), none, []⟩]
def F.parlkeep5_TeachKeeps.r6 : List DOp := [
  ⟨some 42, .load 3 true (.tmp 5), none, []⟩,
  ⟨some 43, .mv (.tmp 8), none, []⟩,
  ⟨some 44, .call I.parlkeep5_accepts [.tmp 42, .tmp 43], none, []⟩,
  ⟨some 9, .mv (.tmp 44), none, []⟩]
def F.parlkeep5_TeachKeeps.r7 : List DOp := [
  ⟨some 45, .faddr 1 (.tmp 5), none, []⟩,
  ⟨some 46, .load 1 false (.tmp 45), none, []⟩,
  ⟨some 47, .len (.tmp 46), none, []⟩,
  ⟨some 48, .mv (.const (.int .i64 0)), none, []⟩]
def F.parlkeep5_TeachKeeps.r8 : List DOp := [
  ⟨some 49, .bin .lss (.tmp 48) (.tmp 47), none, []⟩]
def F.parlkeep5_TeachKeeps.r9 : List DOp := [
  ⟨some 50, .mv (.tmp 48), none, []⟩,
  ⟨some 10, .mv (.tmp 50), none, []⟩]
def F.parlkeep5_TeachKeeps.r10 : List DOp := [
  ⟨some 51, .faddr 1 (.tmp 5), none, []⟩,
  ⟨some 52, .load 1 false (.tmp 51), none, []⟩,
  ⟨some 53, .mv (.tmp 10), none, []⟩,
  ⟨some 54, .faddr 1 (.tmp 5), none, []⟩,
  ⟨some 55, .load 1 false (.tmp 54), none, []⟩,
  ⟨some 56, .mv (.tmp 10), none, []⟩,
  ⟨some 57, .idxs 1 (.tmp 55) (.tmp 56), none, []⟩,
  ⟨some 58, .load 1 false (.tmp 57), none, []⟩,
  ⟨some 59, .bin .sub (.const (.int .i64 (-1))) (.tmp 58), none, []⟩,
  ⟨some 60, .idxs 1 (.tmp 52) (.tmp 53), none, []⟩,
  ⟨none, .store 1 (.tmp 60) (.tmp 59), none, []⟩]
def F.parlkeep5_TeachKeeps.r11 : List DOp := [
  ⟨some 61, .faddr 2 (.tmp 5), none, []⟩,
  ⟨some 62, .load 1 false (.tmp 61), none, []⟩,
  ⟨some 63, .mv (.tmp 10), none, []⟩,
  ⟨some 64, .idxs 1 (.tmp 62) (.tmp 63), none, []⟩,
  ⟨some 65, .load 1 false (.tmp 64), none, []⟩,
  ⟨none, .clear 1 [.int .i64 0] (.tmp 65), none, []⟩]
def F.parlkeep5_TeachKeeps.r12 : List DOp := [
  ⟨some 66, .bin .add (.tmp 48) (.const (.int .i64 1)), none, []⟩,
  ⟨some 48, .mv (.tmp 66), none, []⟩]
def F.parlkeep5_TeachKeeps.L0 : ACode := .seq (.region F.parlkeep5_TeachKeeps.r8) (.seq (.cond (.tmp 49) (.skip) (.exit 0)) (.seq (.block 1 (.seq (.region F.parlkeep5_TeachKeeps.r9) (.seq (.draw F.parlkeep5_TeachKeeps.r10 []) (.region F.parlkeep5_TeachKeeps.r11)))) (.region F.parlkeep5_TeachKeeps.r12)))
def F.parlkeep5_TeachKeeps.r13 : List DOp := [
  ⟨some 68, .mv (.tmp 6), none, []⟩,
  ⟨some 69, .mv (.tmp 8), none, []⟩,
  ⟨some 70, .call I.teach_Teacher_Member [.tmp 68, .tmp 69], none, []⟩,
  ⟨some 67, .mv (.tmp 70), none, []⟩,
  ⟨some 71, .extract (.tmp 67) 0, none, []⟩,
  ⟨some 72, .extract (.tmp 67) 1, none, []⟩,
  ⟨some 11, .mv (.tmp 71), none, []⟩,
  ⟨some 12, .mv (.tmp 72), none, []⟩]
def F.parlkeep5_TeachKeeps.r14 : List DOp := [
  ⟨some 74, .mv (.tmp 6), none, []⟩,
  ⟨some 75, .call I.teach_Teacher_Asked [.tmp 74], none, []⟩,
  ⟨some 73, .mv (.tmp 75), none, []⟩,
  ⟨some 76, .extract (.tmp 73) 0, none, []⟩,
  ⟨some 77, .extract (.tmp 73) 1, none, []⟩,
  ⟨some 13, .mv (.tmp 76), none, []⟩,
  ⟨some 14, .mv (.tmp 77), none, []⟩]
def F.parlkeep5_TeachKeeps.r15 : List DOp := [
  ⟨some 78, .mv (.tmp 12), none, []⟩,
  ⟨some 79, .bin .eql (.tmp 78) (.const (.int .i64 0)), none, []⟩,
  ⟨some 80, .mv (.tmp 79), none, []⟩,
  ⟨some 81, .mv (.tmp 9), (some (80, true)), []⟩,
  ⟨some 82, .mv (.tmp 11), (some (80, true)), []⟩,
  ⟨some 83, .eq false .bool (.tmp 81) (.tmp 82), (some (80, true)), []⟩,
  ⟨some 84, .pick (.tmp 80) (.tmp 83) (.const (.bool false)), none, []⟩,
  ⟨some 85, .mv (.tmp 84), none, []⟩,
  ⟨some 86, .mv (.tmp 13), (some (85, true)), []⟩,
  ⟨some 87, .bin .eql (.tmp 86) (.const (.int .i64 1)), (some (85, true)), []⟩,
  ⟨some 88, .pick (.tmp 85) (.tmp 87) (.const (.bool false)), none, []⟩,
  ⟨some 89, .mv (.tmp 88), none, []⟩,
  ⟨some 90, .mv (.tmp 14), (some (89, true)), []⟩,
  ⟨some 91, .bin .eql (.tmp 90) (.const (.int .i64 0)), (some (89, true)), []⟩,
  ⟨some 92, .pick (.tmp 89) (.tmp 91) (.const (.bool false)), none, []⟩,
  ⟨some 4, .mv (.tmp 92), none, []⟩]
def F.parlkeep5_TeachKeeps.c : ACode := .seq (.region F.parlkeep5_TeachKeeps.r0) (.seq (.region F.parlkeep5_TeachKeeps.r1) (.seq (.region F.parlkeep5_TeachKeeps.r2) (.seq (.seq (.draw F.parlkeep5_TeachKeeps.r3 [(10, 8), (12, 8)]) (.cond (.tmp 37) (.seq (.region F.parlkeep5_TeachKeeps.r4) (.ret)) (.skip))) (.seq (.region F.parlkeep5_TeachKeeps.r5) (.seq (.region F.parlkeep5_TeachKeeps.r6) (.seq (.seq (.region F.parlkeep5_TeachKeeps.r7) (.block 0 (.loop F.parlkeep5_TeachKeeps.L0))) (.seq (.region F.parlkeep5_TeachKeeps.r13) (.seq (.region F.parlkeep5_TeachKeeps.r14) (.seq (.region F.parlkeep5_TeachKeeps.r15) (.ret))))))))))
def F.parlkeep5_TeachKeeps : AFunc := ⟨F.parlkeep5_TeachKeeps.c, [.tmp 4]⟩
/-! parlance/parlkeep5.accepts -/
def F.parlkeep5_accepts.r0 : List DOp := [
  ⟨some 2, .box (.tmp 0), none, []⟩,
  ⟨some 4, .mv (.const (.bool false)), none, []⟩]
def F.parlkeep5_accepts.r1 : List DOp := [
  ⟨some 8, .load 3 true (.tmp 2), none, []⟩,
  ⟨some 9, .mv (.tmp 1), none, []⟩,
  ⟨some 10, .call I.dfa_Run [.tmp 8, .tmp 9], none, []⟩,
  ⟨some 7, .mv (.tmp 10), none, []⟩,
  ⟨some 11, .extract (.tmp 7) 0, none, []⟩,
  ⟨some 12, .extract (.tmp 7) 1, none, []⟩,
  ⟨some 5, .mv (.tmp 11), none, []⟩,
  ⟨some 6, .mv (.tmp 12), none, []⟩]
def F.parlkeep5_accepts.r2 : List DOp := [
  ⟨some 13, .mv (.tmp 6), none, []⟩,
  ⟨some 14, .bin .eql (.tmp 13) (.const (.int .i64 0)), none, []⟩,
  ⟨some 15, .mv (.tmp 14), none, []⟩,
  ⟨some 16, .mv (.tmp 5), (some (15, true)), []⟩,
  ⟨some 17, .bin .geq (.tmp 16) (.const (.int .i64 0)), (some (15, true)), []⟩,
  ⟨some 18, .pick (.tmp 15) (.tmp 17) (.const (.bool false)), none, []⟩,
  ⟨some 4, .mv (.tmp 18), none, []⟩]
def F.parlkeep5_accepts.c : ACode := .seq (.region F.parlkeep5_accepts.r0) (.seq (.region F.parlkeep5_accepts.r1) (.seq (.region F.parlkeep5_accepts.r2) (.ret)))
def F.parlkeep5_accepts : AFunc := ⟨F.parlkeep5_accepts.c, [.tmp 4]⟩
end Go.Proofs.Ytbehlbabgomhfaa
