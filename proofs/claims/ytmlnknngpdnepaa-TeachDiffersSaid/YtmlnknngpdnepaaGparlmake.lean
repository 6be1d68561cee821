/- The abstract code of package parlmake, written by wip/tools/gen.py from the translation. -/
import Derived.Test.YtmlnknngpdnepaaI
namespace Go.Proofs.Ytmlnknngpdnepaa
open Go Go.Ab
/-! parlance/parlmake.Dfa -/
def F.parlmake_Dfa.r0 : List DOp := [
 Dd 2 (.alloc [.int .i64 0, .slice none 0 0, .slice none 0 0])]
def F.parlmake_Dfa.r1 : List DOp := [
 Dd 8 (.mv (.tmp 0)),
 Dd 9 (.build [.slice none 0 0] [(0, 1, .tmp 8)]),
 Dd 10 (.box (.tmp 9)),
 Dd 3 (.mv (.tmp 10))]
def F.parlmake_Dfa.r2 : List DOp := [
 Dd 11 (.mv (.tmp 3)),
 Dd 12 (.call I.parlmake_stream_next [.tmp 11, .const (.int .i64 6)]),
 Dd 13 (.bin .add (.const (.int .i64 1)) (.tmp 12)),
 Dd 14 (.mv (.tmp 3)),
 Dd 15 (.call I.parlmake_stream_next [.tmp 14, .const (.int .i64 3)]),
 Dd 16 (.bin .add (.const (.int .i64 1)) (.tmp 15)),
 Dd 4 (.mv (.tmp 13)),
 Dd 5 (.mv (.tmp 16))]
def F.parlmake_Dfa.r3 : List DOp := [
 Dd 17 (.mv (.tmp 3)),
 Dd 18 (.mv (.tmp 4)),
 Dd 19 (.call I.parlmake_stream_next [.tmp 17, .tmp 18]),
 Dd 20 (.build [.int .i64 0, .slice none 0 0, .slice none 0 0] [(0, 1, .tmp 19)]),
 Dd 6 (.alloc [.int .i64 0, .slice none 0 0, .slice none 0 0]),
 De (.store 3 (.tmp 6) (.tmp 20))]
def F.parlmake_Dfa.r4 : List DOp := [
 Dd 21 (.mv (.tmp 4)),
 Dd 22 (.mv (.const (.int .i64 0)))]
def F.parlmake_Dfa.r5 : List DOp := [
 Dd 23 (.bin .lss (.tmp 22) (.tmp 21))]
def F.parlmake_Dfa.r6 : List DOp := [
 Dd 24 (.faddr 1 (.tmp 6)),
 Dd 25 (.load 1 false (.tmp 24)),
 Dd 26 (.mv (.tmp 3)),
 Dd 27 (.call I.parlmake_stream_next [.tmp 26, .const (.int .i64 3)]),
 Dd 28 (.bin .sub (.tmp 27) (.const (.int .i64 1))),
 Dd 29 (.bslice 1 1 [.int .i64 0] [(0, 1, .tmp 28)]),
 Dd 30 (.append 1 8 (.tmp 25) (.tmp 29)),
 Dd 31 (.faddr 1 (.tmp 6)),
 De (.store 1 (.tmp 31) (.tmp 30))]
def F.parlmake_Dfa.r7 : List DOp := [
 Dd 7 (.mv (.const (.slice none 0 0)))]
def F.parlmake_Dfa.r8 : List DOp := [
 Dd 32 (.mv (.tmp 5)),
 Dd 33 (.mv (.const (.int .i64 0)))]
def F.parlmake_Dfa.r9 : List DOp := [
 Dd 34 (.bin .lss (.tmp 33) (.tmp 32))]
def F.parlmake_Dfa.r10 : List DOp := [
 Dd 35 (.mv (.tmp 7)),
 Dd 36 (.mv (.tmp 3)),
 Dd 37 (.mv (.tmp 4)),
 Dd 38 (.bin .add (.tmp 37) (.const (.int .i64 1))),
 Dd 39 (.call I.parlmake_stream_next [.tmp 36, .tmp 38]),
 Dd 40 (.bin .sub (.tmp 39) (.const (.int .i64 1))),
 Dd 41 (.bslice 1 1 [.int .i64 0] [(0, 1, .tmp 40)]),
 Dd 42 (.append 1 8 (.tmp 35) (.tmp 41)),
 Dd 7 (.mv (.tmp 42))]
def F.parlmake_Dfa.r11 : List DOp := [
 Dd 43 (.bin .add (.tmp 33) (.const (.int .i64 1))),
 Dd 33 (.mv (.tmp 43))]
def F.parlmake_Dfa.L1 : ACode := .seq (.region F.parlmake_Dfa.r9) (.seq (.cond (.tmp 34) (.skip) (.exit 2)) (.seq (.block 3 (.region F.parlmake_Dfa.r10)) (.region F.parlmake_Dfa.r11)))
def F.parlmake_Dfa.r12 : List DOp := [
 Dd 44 (.faddr 2 (.tmp 6)),
 Dd 45 (.load 1 false (.tmp 44)),
 Dd 46 (.mv (.tmp 7)),
 Dd 47 (.bslice 1 1 [.slice none 0 0] [(0, 1, .tmp 46)]),
 Dd 48 (.append 1 24 (.tmp 45) (.tmp 47)),
 Dd 49 (.faddr 2 (.tmp 6)),
 De (.store 1 (.tmp 49) (.tmp 48))]
def F.parlmake_Dfa.r13 : List DOp := [
 Dd 50 (.bin .add (.tmp 22) (.const (.int .i64 1))),
 Dd 22 (.mv (.tmp 50))]
def F.parlmake_Dfa.L0 : ACode := .seq (.region F.parlmake_Dfa.r5) (.seq (.cond (.tmp 23) (.skip) (.exit 0)) (.seq (.block 1 (.seq (.draw F.parlmake_Dfa.r6 [(1, 3)]) (.seq (.region F.parlmake_Dfa.r7) (.seq (.seq (.region F.parlmake_Dfa.r8) (.block 2 (.loop F.parlmake_Dfa.L1))) (.region F.parlmake_Dfa.r12))))) (.region F.parlmake_Dfa.r13)))
def F.parlmake_Dfa.r14 : List DOp := [
 Dd 51 (.load 3 true (.tmp 6)),
 De (.store 3 (.tmp 2) (.tmp 51))]
def F.parlmake_Dfa.c : ACode := .seq (.region F.parlmake_Dfa.r0) (.seq (.region F.parlmake_Dfa.r1) (.seq (.region F.parlmake_Dfa.r2) (.seq (.region F.parlmake_Dfa.r3) (.seq (.seq (.region F.parlmake_Dfa.r4) (.block 0 (.loop F.parlmake_Dfa.L0))) (.seq (.region F.parlmake_Dfa.r14) (.ret))))))
def F.parlmake_Dfa : AFunc := ⟨F.parlmake_Dfa.c, [.cell 2 3 true]⟩
/-! (*parlance/parlmake.stream).next -/
def F.parlmake_stream_next.r0 : List DOp := [
 Dd 4 (.mv (.const (.int .i64 0)))]
def F.parlmake_stream_next.r1 : List DOp := [
 Dd 6 (.mv (.tmp 0)),
 Dd 7 (.nilchk (.tmp 6)),
 Dd 8 (.faddr 0 (.tmp 7)),
 Dd 9 (.load 1 false (.tmp 8)),
 Dd 10 (.len (.tmp 9)),
 Dd 11 (.bin .eql (.tmp 10) (.const (.int .i64 0)))]
def F.parlmake_stream_next.r2 : List DOp := [
 Dd 4 (.mv (.const (.int .i64 0)))]
def F.parlmake_stream_next.r3 : List DOp := [
 Dd 12 (.mv (.tmp 0)),
 Dd 13 (.nilchk (.tmp 12)),
 Dd 14 (.faddr 0 (.tmp 13)),
 Dd 15 (.load 1 false (.tmp 14)),
 Dd 16 (.idxs 1 (.tmp 15) (.const (.int .i64 0))),
 Dd 17 (.load 1 false (.tmp 16)),
 Dd 5 (.mv (.tmp 17))]
def F.parlmake_stream_next.r4 : List DOp := [
 Dd 18 (.mv (.tmp 0)),
 Dd 19 (.mv (.tmp 0)),
 Dd 20 (.nilchk (.tmp 19)),
 Dd 21 (.faddr 0 (.tmp 20)),
 Dd 22 (.load 1 false (.tmp 21)),
 Dd 23 (.slice 1 (.tmp 22) (some (.const (.int .i64 1))) none),
 Dd 24 (.nilchk (.tmp 18)),
 Dd 25 (.faddr 0 (.tmp 24)),
 De (.store 1 (.tmp 25) (.tmp 23))]
def F.parlmake_stream_next.r5 : List DOp := [
 Dd 26 (.mv (.tmp 5)),
 Dd 27 (.mv (.tmp 1)),
 Dd 28 (.call I.parlmake_Below [.tmp 26, .tmp 27]),
 Dd 4 (.mv (.tmp 28))]
def F.parlmake_stream_next.c : ACode := .seq (.region F.parlmake_stream_next.r0) (.seq (.seq (.region F.parlmake_stream_next.r1) (.cond (.tmp 11) (.seq (.region F.parlmake_stream_next.r2) (.ret)) (.skip))) (.seq (.region F.parlmake_stream_next.r3) (.seq (.region F.parlmake_stream_next.r4) (.seq (.region F.parlmake_stream_next.r5) (.ret)))))
def F.parlmake_stream_next : AFunc := ⟨F.parlmake_stream_next.c, [.tmp 4]⟩
/-! parlance/parlmake.Below -/
def F.parlmake_Below.r0 : List DOp := [
 Dd 4 (.mv (.const (.int .i64 0)))]
def F.parlmake_Below.r1 : List DOp := [
 Dd 5 (.mv (.tmp 0)),
 Dd 6 (.mv (.tmp 1)),
 Dd 7 (.bin .rem (.tmp 5) (.tmp 6)),
 Dd 0 (.mv (.tmp 7))]
def F.parlmake_Below.r2 : List DOp := [
 Dd 8 (.mv (.tmp 0)),
 Dd 9 (.bin .lss (.tmp 8) (.const (.int .i64 0)))]
def F.parlmake_Below.r3 : List DOp := [
 Dd 10 (.mv (.tmp 0)),
 Dd 11 (.mv (.tmp 1)),
 Dd 12 (.bin .add (.tmp 10) (.tmp 11)),
 Dd 0 (.mv (.tmp 12))]
def F.parlmake_Below.r4 : List DOp := [
 Dd 13 (.mv (.tmp 0)),
 Dd 4 (.mv (.tmp 13))]
def F.parlmake_Below.c : ACode := .seq (.region F.parlmake_Below.r0) (.seq (.region F.parlmake_Below.r1) (.seq (.seq (.region F.parlmake_Below.r2) (.cond (.tmp 9) (.region F.parlmake_Below.r3) (.skip))) (.seq (.region F.parlmake_Below.r4) (.ret))))
def F.parlmake_Below : AFunc := ⟨F.parlmake_Below.c, [.tmp 4]⟩
end Go.Proofs.Ytmlnknngpdnepaa
