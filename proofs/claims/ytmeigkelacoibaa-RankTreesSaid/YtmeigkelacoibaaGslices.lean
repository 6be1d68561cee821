import Derived.Test.YtmeigkelacoibaaI
namespace Go.Proofs.Ytmeigkelacoibaa
open Go Go.Ab
def F.E2.r0 : List DOp := [
 Dd 4 (.mv (.const (.bool false)))]
def F.E2.r1 : List DOp := [
 Dd 5 (.mv (.tmp 0)),
 Dd 6 (.mv (.tmp 1)),
 Dd 7 (.call I.C5 [.tmp 5, .tmp 6]),
 Dd 8 (.bin .geq (.tmp 7) (.const (.int .i64 0))),
 Dd 4 (.mv (.tmp 8))]
def F.E2.c : ACode := .seq (.region F.E2.r0) (.seq (.region F.E2.r1) (.ret))
def F.E2 : AFunc := ⟨F.E2.c, [.tmp 4]⟩
def F.B0.r0 : List DOp := [
 Dd 4 (.mv (.const (.int .i64 0)))]
def F.B0.r1 : List DOp := [
 Dd 9 (.mv (.tmp 0)),
 Dd 10 (.len (.tmp 9)),
 Dd 11 (.mv (.const (.int .i64 0)))]
def F.B0.r2 : List DOp := [
 Dd 12 (.bin .lss (.tmp 11) (.tmp 10))]
def F.B0.r3 : List DOp := [
 Dd 13 (.mv (.tmp 11)),
 Dd 14 (.idxs 1 (.tmp 9) (.tmp 11)),
 Dd 15 (.load 1 false (.tmp 14)),
 Dd 5 (.mv (.tmp 13)),
 Dd 6 (.mv (.tmp 15))]
def F.B0.r4 : List DOp := [
 Dd 16 (.mv (.tmp 5)),
 Dd 17 (.mv (.tmp 1)),
 Dd 18 (.len (.tmp 17)),
 Dd 19 (.bin .geq (.tmp 16) (.tmp 18))]
def F.B0.r5 : List DOp := [
 Dd 4 (.mv (.const (.int .i64 1)))]
def F.B0.r6 : List DOp := [
 Dd 20 (.mv (.tmp 1)),
 Dd 21 (.mv (.tmp 5)),
 Dd 22 (.idxs 1 (.tmp 20) (.tmp 21)),
 Dd 23 (.load 1 false (.tmp 22)),
 Dd 7 (.mv (.tmp 23))]
def F.B0.r7 : List DOp := [
 Dd 24 (.mv (.tmp 6)),
 Dd 25 (.mv (.tmp 7)),
 Dd 26 (.call I.C2 [.tmp 24, .tmp 25]),
 Dd 8 (.mv (.tmp 26))]
def F.B0.r8 : List DOp := [
 Dd 27 (.mv (.tmp 8)),
 Dd 28 (.bin .neq (.tmp 27) (.const (.int .i64 0)))]
def F.B0.r9 : List DOp := [
 Dd 29 (.mv (.tmp 8)),
 Dd 4 (.mv (.tmp 29))]
def F.B0.r10 : List DOp := [
 Dd 30 (.bin .add (.tmp 11) (.const (.int .i64 1))),
 Dd 11 (.mv (.tmp 30))]
def F.B0.L0 : ACode := .seq (.region F.B0.r2) (.seq (.cond (.tmp 12) (.skip) (.exit 0)) (.seq (.block 1 (.seq (.region F.B0.r3) (.seq (.seq (.region F.B0.r4) (.cond (.tmp 19) (.seq (.region F.B0.r5) (.ret)) (.skip))) (.seq (.region F.B0.r6) (.seq (.region F.B0.r7) (.seq (.region F.B0.r8) (.cond (.tmp 28) (.seq (.region F.B0.r9) (.ret)) (.skip)))))))) (.region F.B0.r10)))
def F.B0.r11 : List DOp := [
 Dd 31 (.mv (.tmp 0)),
 Dd 32 (.len (.tmp 31)),
 Dd 33 (.mv (.tmp 1)),
 Dd 34 (.len (.tmp 33)),
 Dd 35 (.bin .lss (.tmp 32) (.tmp 34))]
def F.B0.r12 : List DOp := [
 Dd 4 (.mv (.const (.int .i64 (-1))))]
def F.B0.r13 : List DOp := [
 Dd 4 (.mv (.const (.int .i64 0)))]
def F.B0.c : ACode := .seq (.region F.B0.r0) (.seq (.seq (.region F.B0.r1) (.block 0 (.loop F.B0.L0))) (.seq (.seq (.region F.B0.r11) (.cond (.tmp 35) (.seq (.region F.B0.r12) (.ret)) (.skip))) (.seq (.region F.B0.r13) (.ret))))
def F.B0 : AFunc := ⟨F.B0.c, [.tmp 4]⟩
def F.C5.r0 : List DOp := [
 Dd 4 (.mv (.const (.int .i64 0)))]
def F.C5.r1 : List DOp := [
 Dd 6 (.mv (.tmp 0)),
 Dd 7 (.len (.tmp 6)),
 Dd 8 (.mv (.const (.int .i64 0)))]
def F.C5.r2 : List DOp := [
 Dd 9 (.bin .lss (.tmp 8) (.tmp 7))]
def F.C5.r3 : List DOp := [
 Dd 10 (.mv (.tmp 8)),
 Dd 5 (.mv (.tmp 10))]
def F.C5.r4 : List DOp := [
 Dd 11 (.mv (.tmp 1)),
 Dd 12 (.mv (.tmp 0)),
 Dd 13 (.mv (.tmp 5)),
 Dd 14 (.idxs 3 (.tmp 12) (.tmp 13)),
 Dd 15 (.load 3 true (.tmp 14)),
 Dd 16 (.callv (.tmp 11) [.tmp 15])]
def F.C5.r5 : List DOp := [
 Dd 17 (.mv (.tmp 5)),
 Dd 4 (.mv (.tmp 17))]
def F.C5.r6 : List DOp := [
 Dd 18 (.bin .add (.tmp 8) (.const (.int .i64 1))),
 Dd 8 (.mv (.tmp 18))]
def F.C5.L0 : ACode := .seq (.region F.C5.r2) (.seq (.cond (.tmp 9) (.skip) (.exit 0)) (.seq (.block 1 (.seq (.region F.C5.r3) (.seq (.region F.C5.r4) (.cond (.tmp 16) (.seq (.region F.C5.r5) (.ret)) (.skip))))) (.region F.C5.r6)))
def F.C5.r7 : List DOp := [
 Dd 4 (.mv (.const (.int .i64 (-1))))]
def F.C5.c : ACode := .seq (.region F.C5.r0) (.seq (.seq (.region F.C5.r1) (.block 0 (.loop F.C5.L0))) (.seq (.region F.C5.r7) (.ret)))
def F.C5 : AFunc := ⟨F.C5.c, [.tmp 4]⟩
def F.A3.r0 : List DOp := [
 Dd 6 (.mv (.const (.int .i64 0)))]
def F.A3.r1 : List DOp := [
 Dd 11 (.mv (.tmp 0)),
 Dd 12 (.len (.tmp 11)),
 Dd 13 (.mv (.const (.int .i64 0)))]
def F.A3.r2 : List DOp := [
 Dd 14 (.bin .lss (.tmp 13) (.tmp 12))]
def F.A3.r3 : List DOp := [
 Dd 15 (.mv (.tmp 13)),
 Dd 16 (.idxs 2 (.tmp 11) (.tmp 13)),
 Dd 17 (.load 2 true (.tmp 16)),
 Dd 8 (.alloc [.bool false, .int .i64 0]),
 Dd 7 (.mv (.tmp 15)),
 De (.store 2 (.tmp 8) (.tmp 17))]
def F.A3.r4 : List DOp := [
 Dd 18 (.mv (.tmp 7)),
 Dd 19 (.mv (.tmp 1)),
 Dd 20 (.len (.tmp 19)),
 Dd 21 (.bin .geq (.tmp 18) (.tmp 20))]
def F.A3.r5 : List DOp := [
 Dd 6 (.mv (.const (.int .i64 1)))]
def F.A3.r6 : List DOp := [
 Dd 22 (.mv (.tmp 1)),
 Dd 23 (.mv (.tmp 7)),
 Dd 24 (.idxs 2 (.tmp 22) (.tmp 23)),
 Dd 25 (.load 2 true (.tmp 24)),
 Dd 9 (.alloc [.bool false, .int .i64 0]),
 De (.store 2 (.tmp 9) (.tmp 25))]
def F.A3.r7 : List DOp := [
 Dd 26 (.mv (.tmp 2)),
 Dd 27 (.load 2 true (.tmp 8)),
 Dd 28 (.load 2 true (.tmp 9)),
 Dd 29 (.callv (.tmp 26) [.tmp 27, .tmp 28]),
 Dd 10 (.mv (.tmp 29))]
def F.A3.r8 : List DOp := [
 Dd 30 (.mv (.tmp 10)),
 Dd 31 (.bin .neq (.tmp 30) (.const (.int .i64 0)))]
def F.A3.r9 : List DOp := [
 Dd 32 (.mv (.tmp 10)),
 Dd 6 (.mv (.tmp 32))]
def F.A3.r10 : List DOp := [
 Dd 33 (.bin .add (.tmp 13) (.const (.int .i64 1))),
 Dd 13 (.mv (.tmp 33))]
def F.A3.L0 : ACode := .seq (.region F.A3.r2) (.seq (.cond (.tmp 14) (.skip) (.exit 0)) (.seq (.block 1 (.seq (.region F.A3.r3) (.seq (.seq (.region F.A3.r4) (.cond (.tmp 21) (.seq (.region F.A3.r5) (.ret)) (.skip))) (.seq (.region F.A3.r6) (.seq (.region F.A3.r7) (.seq (.region F.A3.r8) (.cond (.tmp 31) (.seq (.region F.A3.r9) (.ret)) (.skip)))))))) (.region F.A3.r10)))
def F.A3.r11 : List DOp := [
 Dd 34 (.mv (.tmp 0)),
 Dd 35 (.len (.tmp 34)),
 Dd 36 (.mv (.tmp 1)),
 Dd 37 (.len (.tmp 36)),
 Dd 38 (.bin .lss (.tmp 35) (.tmp 37))]
def F.A3.r12 : List DOp := [
 Dd 6 (.mv (.const (.int .i64 (-1))))]
def F.A3.r13 : List DOp := [
 Dd 6 (.mv (.const (.int .i64 0)))]
def F.A3.c : ACode := .seq (.region F.A3.r0) (.seq (.seq (.region F.A3.r1) (.block 0 (.loop F.A3.L0))) (.seq (.seq (.region F.A3.r11) (.cond (.tmp 38) (.seq (.region F.A3.r12) (.ret)) (.skip))) (.seq (.region F.A3.r13) (.ret))))
def F.A3 : AFunc := ⟨F.A3.c, [.tmp 6]⟩
end Go.Proofs.Ytmeigkelacoibaa
