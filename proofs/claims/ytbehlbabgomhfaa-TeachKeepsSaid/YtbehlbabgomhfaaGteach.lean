/- The abstract code of package teach, written by wip/tools/gen.py from the translation. -/
import Derived.Test.YtbehlbabgomhfaaI
namespace Go.Proofs.Ytbehlbabgomhfaa
open Go Go.Ab
/-! parlance/teach.New -/
def F.teach_New.r0 : List DOp := [
  ⟨some 1, .box (.tmp 0), none, []⟩,
  ⟨some 2, .mv (.const (.pointer none)), none, []⟩,
  ⟨some 3, .mv (.const (.int .i64 0)), none, []⟩]
def F.teach_New.r1 : List DOp := [
  ⟨some 8, .load 3 true (.tmp 1), none, []⟩,
  ⟨some 9, .call I.dfa_Check [.tmp 8], none, []⟩,
  ⟨some 4, .mv (.tmp 9), none, []⟩]
def F.teach_New.r2 : List DOp := [
  ⟨some 10, .mv (.tmp 4), none, []⟩,
  ⟨some 11, .bin .neq (.tmp 10) (.const (.int .i64 0)), none, []⟩]
def F.teach_New.r3 : List DOp := [
  ⟨some 12, .mv (.tmp 4), none, []⟩,
  ⟨some 2, .mv (.const (.pointer none)), none, []⟩,
  ⟨some 3, .mv (.tmp 12), none, []⟩]
def F.teach_New.r4 : List DOp := [
  ⟨some 13, .faddr 0 (.tmp 1), none, []⟩,
  ⟨some 14, .load 1 false (.tmp 13), none, []⟩,
  ⟨some 15, .faddr 1 (.tmp 1), none, []⟩,
  ⟨some 16, .load 1 false (.tmp 15), none, []⟩,
  ⟨some 17, .append 1 8 (.const (.slice none 0 0)) (.tmp 16), none, []⟩,
  ⟨some 18, .build [.int .i64 0, .slice none 0 0, .slice none 0 0] [(0, 1, .tmp 14), (1, 1, .tmp 17)], none, []⟩,
  ⟨some 19, .build [.int .i64 0, .slice none 0 0, .slice none 0 0, .int .i64 0, .int .i64 0] [(0, 3, .tmp 18)], none, []⟩,
  ⟨some 20, .box (.tmp 19), none, []⟩,
  ⟨some 5, .mv (.tmp 20), none, []⟩]
def F.teach_New.r5 : List DOp := [
  ⟨some 21, .faddr 2 (.tmp 1), none, []⟩,
  ⟨some 22, .load 1 false (.tmp 21), none, []⟩,
  ⟨some 23, .len (.tmp 22), none, []⟩,
  ⟨some 24, .mv (.const (.int .i64 0)), none, []⟩]
def F.teach_New.r6 : List DOp := [
  ⟨some 25, .bin .lss (.tmp 24) (.tmp 23), none, []⟩]
def F.teach_New.r7 : List DOp := [
  ⟨some 26, .idxs 1 (.tmp 22) (.tmp 24), none, []⟩,
  ⟨some 27, .load 1 false (.tmp 26), none, []⟩,
  ⟨some 7, .mv (.tmp 27), none, []⟩]
def F.teach_New.r8 : List DOp := [
  ⟨some 28, .mv (.tmp 5), none, []⟩,
  ⟨some 29, .mv (.tmp 5), none, []⟩,
  ⟨some 30, .nilchk (.tmp 29), none, []⟩,
  ⟨some 31, .faddr 0 (.tmp 30), none, []⟩,
  ⟨some 32, .faddr 2 (.tmp 31), none, []⟩,
  ⟨some 33, .load 1 false (.tmp 32), none, []⟩,
  ⟨some 34, .mv (.tmp 7), none, []⟩,
  ⟨some 35, .append 1 8 (.const (.slice none 0 0)) (.tmp 34), none, []⟩,
  ⟨some 36, .bslice 1 1 [.slice none 0 0] [(0, 1, .tmp 35)], none, []⟩,
  ⟨some 37, .append 1 24 (.tmp 33) (.tmp 36), none, []⟩,
  ⟨some 38, .nilchk (.tmp 28), none, []⟩,
  ⟨some 39, .faddr 0 (.tmp 38), none, []⟩,
  ⟨some 40, .faddr 2 (.tmp 39), none, []⟩,
  ⟨none, .store 1 (.tmp 40) (.tmp 37), none, []⟩]
def F.teach_New.r9 : List DOp := [
  ⟨some 41, .bin .add (.tmp 24) (.const (.int .i64 1)), none, []⟩,
  ⟨some 24, .mv (.tmp 41), none, []⟩]
def F.teach_New.L0 : ACode := .seq (.region F.teach_New.r6) (.seq (.cond (.tmp 25) (.skip) (.exit 0)) (.seq (.block 1 (.seq (.region F.teach_New.r7) (.draw F.teach_New.r8 [(5, 7)]))) (.region F.teach_New.r9)))
def F.teach_New.r10 : List DOp := [
  ⟨some 42, .mv (.tmp 5), none, []⟩,
  ⟨some 2, .mv (.tmp 42), none, []⟩,
  ⟨some 3, .mv (.const (.int .i64 0)), none, []⟩]
def F.teach_New.c : ACode := .seq (.region F.teach_New.r0) (.seq (.seq (.region F.teach_New.r1) (.seq (.region F.teach_New.r2) (.cond (.tmp 11) (.seq (.region F.teach_New.r3) (.ret)) (.skip)))) (.seq (.draw F.teach_New.r4 [(1, 4)]) (.seq (.seq (.region F.teach_New.r5) (.block 0 (.loop F.teach_New.L0))) (.seq (.region F.teach_New.r10) (.ret)))))
def F.teach_New : AFunc := ⟨F.teach_New.c, [.tmp 2, .tmp 3]⟩
/-! (*parlance/teach.Teacher).Symbols -/
def F.teach_Teacher_Symbols.r0 : List DOp := [
  ⟨some 2, .mv (.const (.int .i64 0)), none, []⟩]
def F.teach_Teacher_Symbols.r1 : List DOp := [
  ⟨some 3, .mv (.tmp 0), none, []⟩,
  ⟨some 4, .nilchk (.tmp 3), none, []⟩,
  ⟨some 5, .faddr 0 (.tmp 4), none, []⟩,
  ⟨some 6, .faddr 2 (.tmp 5), none, []⟩,
  ⟨some 7, .load 1 false (.tmp 6), none, []⟩,
  ⟨some 8, .idxs 1 (.tmp 7) (.const (.int .i64 0)), none, []⟩,
  ⟨some 9, .load 1 false (.tmp 8), none, []⟩,
  ⟨some 10, .len (.tmp 9), none, []⟩,
  ⟨some 2, .mv (.tmp 10), none, []⟩]
def F.teach_Teacher_Symbols.c : ACode := .seq (.region F.teach_Teacher_Symbols.r0) (.seq (.region F.teach_Teacher_Symbols.r1) (.ret))
def F.teach_Teacher_Symbols : AFunc := ⟨F.teach_Teacher_Symbols.c, [.tmp 2]⟩
/-! (*parlance/teach.Teacher).Member -/
def F.teach_Teacher_Member.r0 : List DOp := [
  ⟨some 4, .mv (.const (.bool false)), none, []⟩,
  ⟨some 5, .mv (.const (.int .i64 0)), none, []⟩]
def F.teach_Teacher_Member.r1 : List DOp := [
  ⟨some 8, .mv (.tmp 1), none, []⟩,
  ⟨some 9, .len (.tmp 8), none, []⟩,
  ⟨some 10, .bin .gtr (.tmp 9) (.const (.int .i64 2000)), none, []⟩]
def F.teach_Teacher_Member.r2 : List DOp := [
  ⟨some 4, .mv (.const (.bool false)), none, []⟩,
  ⟨some 5, .mv (.const (.int .i64 2)), none, []⟩]
def F.teach_Teacher_Member.r3 : List DOp := [
  ⟨some 12, .mv (.tmp 0), none, []⟩,
  ⟨some 13, .nilchk (.tmp 12), none, []⟩,
  ⟨some 14, .faddr 0 (.tmp 13), none, []⟩,
  ⟨some 15, .load 3 true (.tmp 14), none, []⟩,
  ⟨some 16, .mv (.tmp 1), none, []⟩,
  ⟨some 17, .call I.dfa_Run [.tmp 15, .tmp 16], none, []⟩,
  ⟨some 11, .mv (.tmp 17), none, []⟩,
  ⟨some 18, .extract (.tmp 11) 0, none, []⟩,
  ⟨some 19, .extract (.tmp 11) 1, none, []⟩,
  ⟨some 6, .mv (.tmp 18), none, []⟩,
  ⟨some 7, .mv (.tmp 19), none, []⟩]
def F.teach_Teacher_Member.r4 : List DOp := [
  ⟨some 20, .mv (.tmp 7), none, []⟩,
  ⟨some 21, .bin .neq (.tmp 20) (.const (.int .i64 0)), none, []⟩]
def F.teach_Teacher_Member.r5 : List DOp := [
  ⟨some 22, .mv (.tmp 7), none, []⟩,
  ⟨some 4, .mv (.const (.bool false)), none, []⟩,
  ⟨some 5, .mv (.tmp 22), none, []⟩]
def F.teach_Teacher_Member.r6 : List DOp := [
  ⟨some 23, .mv (.tmp 0), none, []⟩,
  ⟨some 24, .nilchk (.tmp 23), none, []⟩,
  ⟨some 25, .faddr 3 (.tmp 24), none, []⟩,
  ⟨some 26, .load 1 false (.tmp 25), none, []⟩,
  ⟨some 27, .bin .add (.tmp 26) (.const (.int .i64 1)), none, []⟩,
  ⟨some 28, .nilchk (.tmp 23), none, []⟩,
  ⟨some 29, .faddr 3 (.tmp 28), none, []⟩,
  ⟨none, .store 1 (.tmp 29) (.tmp 27), none, []⟩]
def F.teach_Teacher_Member.r7 : List DOp := [
  ⟨some 30, .mv (.tmp 6), none, []⟩,
  ⟨some 31, .bin .geq (.tmp 30) (.const (.int .i64 0)), none, []⟩,
  ⟨some 4, .mv (.tmp 31), none, []⟩,
  ⟨some 5, .mv (.const (.int .i64 0)), none, []⟩]
def F.teach_Teacher_Member.c : ACode := .seq (.region F.teach_Teacher_Member.r0) (.seq (.seq (.region F.teach_Teacher_Member.r1) (.cond (.tmp 10) (.seq (.region F.teach_Teacher_Member.r2) (.ret)) (.skip))) (.seq (.region F.teach_Teacher_Member.r3) (.seq (.seq (.region F.teach_Teacher_Member.r4) (.cond (.tmp 21) (.seq (.region F.teach_Teacher_Member.r5) (.ret)) (.skip))) (.seq (.region F.teach_Teacher_Member.r6) (.seq (.region F.teach_Teacher_Member.r7) (.ret))))))
def F.teach_Teacher_Member : AFunc := ⟨F.teach_Teacher_Member.c, [.tmp 4, .tmp 5]⟩
/-! (*parlance/teach.Teacher).Asked -/
def F.teach_Teacher_Asked.r0 : List DOp := [
  ⟨some 2, .mv (.const (.int .i64 0)), none, []⟩,
  ⟨some 3, .mv (.const (.int .i64 0)), none, []⟩]
def F.teach_Teacher_Asked.r1 : List DOp := [
  ⟨some 4, .mv (.tmp 0), none, []⟩,
  ⟨some 5, .nilchk (.tmp 4), none, []⟩,
  ⟨some 6, .faddr 3 (.tmp 5), none, []⟩,
  ⟨some 7, .load 1 false (.tmp 6), none, []⟩,
  ⟨some 8, .mv (.tmp 0), none, []⟩,
  ⟨some 9, .nilchk (.tmp 8), none, []⟩,
  ⟨some 10, .faddr 4 (.tmp 9), none, []⟩,
  ⟨some 11, .load 1 false (.tmp 10), none, []⟩,
  ⟨some 2, .mv (.tmp 7), none, []⟩,
  ⟨some 3, .mv (.tmp 11), none, []⟩]
def F.teach_Teacher_Asked.c : ACode := .seq (.region F.teach_Teacher_Asked.r0) (.seq (.draw F.teach_Teacher_Asked.r1 []) (.ret))
def F.teach_Teacher_Asked : AFunc := ⟨F.teach_Teacher_Asked.c, [.tmp 2, .tmp 3]⟩
end Go.Proofs.Ytbehlbabgomhfaa
