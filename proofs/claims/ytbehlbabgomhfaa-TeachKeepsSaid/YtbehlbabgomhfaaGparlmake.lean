/- The abstract code of package parlmake, written by wip/tools/gen.py from the translation. -/
import Derived.Test.YtbehlbabgomhfaaI
namespace Go.Proofs.Ytbehlbabgomhfaa
open Go Go.Ab
/-! parlance/parlmake.Dfa -/
def F.parlmake_Dfa.r0 : List DOp := [
  ⟨some 2, .alloc [.int .i64 0, .slice none 0 0, .slice none 0 0], none, []⟩]
def F.parlmake_Dfa.r1 : List DOp := [
  ⟨some 8, .mv (.tmp 0), none, []⟩,
  ⟨some 9, .build [.slice none 0 0] [(0, 1, .tmp 8)], none, []⟩,
  ⟨some 10, .box (.tmp 9), none, []⟩,
  ⟨some 3, .mv (.tmp 10), none, []⟩]
def F.parlmake_Dfa.r2 : List DOp := [
  ⟨some 11, .mv (.tmp 3), none, []⟩,
  ⟨some 12, .call I.parlmake_stream_next [.tmp 11, .const (.int .i64 6)], none, []⟩,
  ⟨some 13, .bin .add (.const (.int .i64 1)) (.tmp 12), none, []⟩,
  ⟨some 14, .mv (.tmp 3), none, []⟩,
  ⟨some 15, .call I.parlmake_stream_next [.tmp 14, .const (.int .i64 3)], none, []⟩,
  ⟨some 16, .bin .add (.const (.int .i64 1)) (.tmp 15), none, []⟩,
  ⟨some 4, .mv (.tmp 13), none, []⟩,
  ⟨some 5, .mv (.tmp 16), none, []⟩]
def F.parlmake_Dfa.r3 : List DOp := [
  ⟨some 17, .mv (.tmp 3), none, []⟩,
  ⟨some 18, .mv (.tmp 4), none, []⟩,
  ⟨some 19, .call I.parlmake_stream_next [.tmp 17, .tmp 18], none, []⟩,
  ⟨some 20, .build [.int .i64 0, .slice none 0 0, .slice none 0 0] [(0, 1, .tmp 19)], none, []⟩,
  ⟨some 6, .alloc [.int .i64 0, .slice none 0 0, .slice none 0 0], none, []⟩,
  ⟨none, .store 3 (.tmp 6) (.tmp 20), none, []⟩]
def F.parlmake_Dfa.r4 : List DOp := [
  ⟨some 21, .mv (.tmp 4), none, []⟩,
  ⟨some 22, .mv (.const (.int .i64 0)), none, []⟩]
def F.parlmake_Dfa.r5 : List DOp := [
  ⟨some 23, .bin .lss (.tmp 22) (.tmp 21), none, []⟩]
def F.parlmake_Dfa.r6 : List DOp := [
  ⟨some 24, .faddr 1 (.tmp 6), none, []⟩,
  ⟨some 25, .load 1 false (.tmp 24), none, []⟩,
  ⟨some 26, .mv (.tmp 3), none, []⟩,
  ⟨some 27, .call I.parlmake_stream_next [.tmp 26, .const (.int .i64 3)], none, []⟩,
  ⟨some 28, .bin .sub (.tmp 27) (.const (.int .i64 1)), none, []⟩,
  ⟨some 29, .bslice 1 1 [.int .i64 0] [(0, 1, .tmp 28)], none, []⟩,
  ⟨some 30, .append 1 8 (.tmp 25) (.tmp 29), none, []⟩,
  ⟨some 31, .faddr 1 (.tmp 6), none, []⟩,
  ⟨none, .store 1 (.tmp 31) (.tmp 30), none, []⟩]
def F.parlmake_Dfa.r7 : List DOp := [
  ⟨some 7, .mv (.const (.slice none 0 0)), none, []⟩]
def F.parlmake_Dfa.r8 : List DOp := [
  ⟨some 32, .mv (.tmp 5), none, []⟩,
  ⟨some 33, .mv (.const (.int .i64 0)), none, []⟩]
def F.parlmake_Dfa.r9 : List DOp := [
  ⟨some 34, .bin .lss (.tmp 33) (.tmp 32), none, []⟩]
def F.parlmake_Dfa.r10 : List DOp := [
  ⟨some 35, .mv (.tmp 7), none, []⟩,
  ⟨some 36, .mv (.tmp 3), none, []⟩,
  ⟨some 37, .mv (.tmp 4), none, []⟩,
  ⟨some 38, .bin .add (.tmp 37) (.const (.int .i64 1)), none, []⟩,
  ⟨some 39, .call I.parlmake_stream_next [.tmp 36, .tmp 38], none, []⟩,
  ⟨some 40, .bin .sub (.tmp 39) (.const (.int .i64 1)), none, []⟩,
  ⟨some 41, .bslice 1 1 [.int .i64 0] [(0, 1, .tmp 40)], none, []⟩,
  ⟨some 42, .append 1 8 (.tmp 35) (.tmp 41), none, []⟩,
  ⟨some 7, .mv (.tmp 42), none, []⟩]
def F.parlmake_Dfa.r11 : List DOp := [
  ⟨some 43, .bin .add (.tmp 33) (.const (.int .i64 1)), none, []⟩,
  ⟨some 33, .mv (.tmp 43), none, []⟩]
def F.parlmake_Dfa.L1 : ACode := .seq (.region F.parlmake_Dfa.r9) (.seq (.cond (.tmp 34) (.skip) (.exit 2)) (.seq (.block 3 (.region F.parlmake_Dfa.r10)) (.region F.parlmake_Dfa.r11)))
def F.parlmake_Dfa.r12 : List DOp := [
  ⟨some 44, .faddr 2 (.tmp 6), none, []⟩,
  ⟨some 45, .load 1 false (.tmp 44), none, []⟩,
  ⟨some 46, .mv (.tmp 7), none, []⟩,
  ⟨some 47, .bslice 1 1 [.slice none 0 0] [(0, 1, .tmp 46)], none, []⟩,
  ⟨some 48, .append 1 24 (.tmp 45) (.tmp 47), none, []⟩,
  ⟨some 49, .faddr 2 (.tmp 6), none, []⟩,
  ⟨none, .store 1 (.tmp 49) (.tmp 48), none, []⟩]
def F.parlmake_Dfa.r13 : List DOp := [
  ⟨some 50, .bin .add (.tmp 22) (.const (.int .i64 1)), none, []⟩,
  ⟨some 22, .mv (.tmp 50), none, []⟩]
def F.parlmake_Dfa.L0 : ACode := .seq (.region F.parlmake_Dfa.r5) (.seq (.cond (.tmp 23) (.skip) (.exit 0)) (.seq (.block 1 (.seq (.draw F.parlmake_Dfa.r6 [(1, 3)]) (.seq (.region F.parlmake_Dfa.r7) (.seq (.seq (.region F.parlmake_Dfa.r8) (.block 2 (.loop F.parlmake_Dfa.L1))) (.region F.parlmake_Dfa.r12))))) (.region F.parlmake_Dfa.r13)))
def F.parlmake_Dfa.r14 : List DOp := [
  ⟨some 51, .load 3 true (.tmp 6), none, []⟩,
  ⟨none, .store 3 (.tmp 2) (.tmp 51), none, []⟩]
def F.parlmake_Dfa.c : ACode := .seq (.region F.parlmake_Dfa.r0) (.seq (.region F.parlmake_Dfa.r1) (.seq (.region F.parlmake_Dfa.r2) (.seq (.region F.parlmake_Dfa.r3) (.seq (.seq (.region F.parlmake_Dfa.r4) (.block 0 (.loop F.parlmake_Dfa.L0))) (.seq (.region F.parlmake_Dfa.r14) (.ret))))))
def F.parlmake_Dfa : AFunc := ⟨F.parlmake_Dfa.c, [.cell 2 3 true]⟩
/-! parlance/parlmake.Word -/
def F.parlmake_Word.r0 : List DOp := [
  ⟨some 6, .mv (.const (.slice none 0 0)), none, []⟩]
def F.parlmake_Word.r1 : List DOp := [
  ⟨some 7, .mv (.const (.slice none 0 0)), none, []⟩]
def F.parlmake_Word.r2 : List DOp := [
  ⟨some 10, .mv (.tmp 2), none, []⟩,
  ⟨some 11, .len (.tmp 10), none, []⟩,
  ⟨some 12, .mv (.const (.int .i64 0)), none, []⟩]
def F.parlmake_Word.r3 : List DOp := [
  ⟨some 13, .bin .lss (.tmp 12) (.tmp 11), none, []⟩]
def F.parlmake_Word.r4 : List DOp := [
  ⟨some 14, .idxs 1 (.tmp 10) (.tmp 12), none, []⟩,
  ⟨some 15, .load 1 false (.tmp 14), none, []⟩,
  ⟨some 9, .mv (.tmp 15), none, []⟩]
def F.parlmake_Word.r5 : List DOp := [
  ⟨some 16, .mv (.tmp 7), none, []⟩,
  ⟨some 17, .len (.tmp 16), none, []⟩,
  ⟨some 18, .mv (.tmp 1), none, []⟩,
  ⟨some 19, .bin .eql (.tmp 17) (.tmp 18), none, []⟩]
def F.parlmake_Word.r6 : List DOp := [
  ⟨some 20, .mv (.tmp 7), none, []⟩,
  ⟨some 21, .mv (.tmp 9), none, []⟩,
  ⟨some 22, .mv (.tmp 0), none, []⟩,
  ⟨some 23, .call I.parlmake_Below [.tmp 21, .tmp 22], none, []⟩,
  ⟨some 24, .bslice 1 1 [.int .i64 0] [(0, 1, .tmp 23)], none, []⟩,
  ⟨some 25, .append 1 8 (.tmp 20) (.tmp 24), none, []⟩,
  ⟨some 7, .mv (.tmp 25), none, []⟩]
def F.parlmake_Word.r7 : List DOp := [
  ⟨some 26, .bin .add (.tmp 12) (.const (.int .i64 1)), none, []⟩,
  ⟨some 12, .mv (.tmp 26), none, []⟩]
def F.parlmake_Word.L0 : ACode := .seq (.region F.parlmake_Word.r3) (.seq (.cond (.tmp 13) (.skip) (.exit 0)) (.seq (.block 1 (.seq (.region F.parlmake_Word.r4) (.seq (.seq (.region F.parlmake_Word.r5) (.cond (.tmp 19) (.exit 0) (.skip))) (.region F.parlmake_Word.r6)))) (.region F.parlmake_Word.r7)))
def F.parlmake_Word.r8 : List DOp := [
  ⟨some 27, .mv (.tmp 7), none, []⟩,
  ⟨some 6, .mv (.tmp 27), none, []⟩]
def F.parlmake_Word.c : ACode := .seq (.region F.parlmake_Word.r0) (.seq (.region F.parlmake_Word.r1) (.seq (.seq (.region F.parlmake_Word.r2) (.block 0 (.loop F.parlmake_Word.L0))) (.seq (.region F.parlmake_Word.r8) (.ret))))
def F.parlmake_Word : AFunc := ⟨F.parlmake_Word.c, [.tmp 6]⟩
/-! parlance/parlmake.Below -/
def F.parlmake_Below.r0 : List DOp := [
  ⟨some 4, .mv (.const (.int .i64 0)), none, []⟩]
def F.parlmake_Below.r1 : List DOp := [
  ⟨some 5, .mv (.tmp 0), none, []⟩,
  ⟨some 6, .mv (.tmp 1), none, []⟩,
  ⟨some 7, .bin .rem (.tmp 5) (.tmp 6), none, []⟩,
  ⟨some 0, .mv (.tmp 7), none, []⟩]
def F.parlmake_Below.r2 : List DOp := [
  ⟨some 8, .mv (.tmp 0), none, []⟩,
  ⟨some 9, .bin .lss (.tmp 8) (.const (.int .i64 0)), none, []⟩]
def F.parlmake_Below.r3 : List DOp := [
  ⟨some 10, .mv (.tmp 0), none, []⟩,
  ⟨some 11, .mv (.tmp 1), none, []⟩,
  ⟨some 12, .bin .add (.tmp 10) (.tmp 11), none, []⟩,
  ⟨some 0, .mv (.tmp 12), none, []⟩]
def F.parlmake_Below.r4 : List DOp := [
  ⟨some 13, .mv (.tmp 0), none, []⟩,
  ⟨some 4, .mv (.tmp 13), none, []⟩]
def F.parlmake_Below.c : ACode := .seq (.region F.parlmake_Below.r0) (.seq (.region F.parlmake_Below.r1) (.seq (.seq (.region F.parlmake_Below.r2) (.cond (.tmp 9) (.region F.parlmake_Below.r3) (.skip))) (.seq (.region F.parlmake_Below.r4) (.ret))))
def F.parlmake_Below : AFunc := ⟨F.parlmake_Below.c, [.tmp 4]⟩
/-! (*parlance/parlmake.stream).next -/
def F.parlmake_stream_next.r0 : List DOp := [
  ⟨some 4, .mv (.const (.int .i64 0)), none, []⟩]
def F.parlmake_stream_next.r1 : List DOp := [
  ⟨some 6, .mv (.tmp 0), none, []⟩,
  ⟨some 7, .nilchk (.tmp 6), none, []⟩,
  ⟨some 8, .faddr 0 (.tmp 7), none, []⟩,
  ⟨some 9, .load 1 false (.tmp 8), none, []⟩,
  ⟨some 10, .len (.tmp 9), none, []⟩,
  ⟨some 11, .bin .eql (.tmp 10) (.const (.int .i64 0)), none, []⟩]
def F.parlmake_stream_next.r2 : List DOp := [
  ⟨some 4, .mv (.const (.int .i64 0)), none, []⟩]
def F.parlmake_stream_next.r3 : List DOp := [
  ⟨some 12, .mv (.tmp 0), none, []⟩,
  ⟨some 13, .nilchk (.tmp 12), none, []⟩,
  ⟨some 14, .faddr 0 (.tmp 13), none, []⟩,
  ⟨some 15, .load 1 false (.tmp 14), none, []⟩,
  ⟨some 16, .idxs 1 (.tmp 15) (.const (.int .i64 0)), none, []⟩,
  ⟨some 17, .load 1 false (.tmp 16), none, []⟩,
  ⟨some 5, .mv (.tmp 17), none, []⟩]
def F.parlmake_stream_next.r4 : List DOp := [
  ⟨some 18, .mv (.tmp 0), none, []⟩,
  ⟨some 19, .mv (.tmp 0), none, []⟩,
  ⟨some 20, .nilchk (.tmp 19), none, []⟩,
  ⟨some 21, .faddr 0 (.tmp 20), none, []⟩,
  ⟨some 22, .load 1 false (.tmp 21), none, []⟩,
  ⟨some 23, .slice 1 (.tmp 22) (some (.const (.int .i64 1))) none, none, []⟩,
  ⟨some 24, .nilchk (.tmp 18), none, []⟩,
  ⟨some 25, .faddr 0 (.tmp 24), none, []⟩,
  ⟨none, .store 1 (.tmp 25) (.tmp 23), none, []⟩]
def F.parlmake_stream_next.r5 : List DOp := [
  ⟨some 26, .mv (.tmp 5), none, []⟩,
  ⟨some 27, .mv (.tmp 1), none, []⟩,
  ⟨some 28, .call I.parlmake_Below [.tmp 26, .tmp 27], none, []⟩,
  ⟨some 4, .mv (.tmp 28), none, []⟩]
def F.parlmake_stream_next.c : ACode := .seq (.region F.parlmake_stream_next.r0) (.seq (.seq (.region F.parlmake_stream_next.r1) (.cond (.tmp 11) (.seq (.region F.parlmake_stream_next.r2) (.ret)) (.skip))) (.seq (.region F.parlmake_stream_next.r3) (.seq (.region F.parlmake_stream_next.r4) (.seq (.region F.parlmake_stream_next.r5) (.ret)))))
def F.parlmake_stream_next : AFunc := ⟨F.parlmake_stream_next.c, [.tmp 4]⟩
end Go.Proofs.Ytbehlbabgomhfaa
