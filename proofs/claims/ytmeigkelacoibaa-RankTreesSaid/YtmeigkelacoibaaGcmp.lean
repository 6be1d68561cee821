import Derived.Test.YtmeigkelacoibaaI
namespace Go.Proofs.Ytmeigkelacoibaa
open Go Go.Ab
def F.C2.r0 : List DOp := [
 Dd 4 (.mv (.const (.int .i64 0)))]
def F.C2.r1 : List DOp := [
 Dd 7 (.mv (.tmp 0)),
 Dd 8 (.call I.F7 [.tmp 7]),
 Dd 5 (.mv (.tmp 8))]
def F.C2.r2 : List DOp := [
 Dd 9 (.mv (.tmp 1)),
 Dd 10 (.call I.F7 [.tmp 9]),
 Dd 6 (.mv (.tmp 10))]
def F.C2.r3 : List DOp := [
 Dd 11 (.mv (.tmp 5))]
def F.C2.r4 : List DOp := [
 Dd 12 (.mv (.tmp 6))]
def F.C2.r5 : List DOp := [
 Dd 4 (.mv (.const (.int .i64 0)))]
def F.C2.r6 : List DOp := [
 Dd 4 (.mv (.const (.int .i64 (-1))))]
def F.C2.r7 : List DOp := [
 Dd 13 (.mv (.tmp 6))]
def F.C2.r8 : List DOp := [
 Dd 4 (.mv (.const (.int .i64 1)))]
def F.C2.r9 : List DOp := [
 Dd 14 (.mv (.tmp 0)),
 Dd 15 (.mv (.tmp 1)),
 Dd 16 (.bin .lss (.tmp 14) (.tmp 15))]
def F.C2.r10 : List DOp := [
 Dd 4 (.mv (.const (.int .i64 (-1))))]
def F.C2.r11 : List DOp := [
 Dd 17 (.mv (.tmp 0)),
 Dd 18 (.mv (.tmp 1)),
 Dd 19 (.bin .gtr (.tmp 17) (.tmp 18))]
def F.C2.r12 : List DOp := [
 Dd 4 (.mv (.const (.int .i64 1)))]
def F.C2.r13 : List DOp := [
 Dd 4 (.mv (.const (.int .i64 0)))]
def F.C2.c : ACode := .seq (.region F.C2.r0) (.seq (.region F.C2.r1) (.seq (.region F.C2.r2) (.seq (.seq (.region F.C2.r3) (.cond (.tmp 11) (.seq (.seq (.region F.C2.r4) (.cond (.tmp 12) (.seq (.region F.C2.r5) (.ret)) (.skip))) (.seq (.region F.C2.r6) (.ret))) (.skip))) (.seq (.seq (.region F.C2.r7) (.cond (.tmp 13) (.seq (.region F.C2.r8) (.ret)) (.skip))) (.seq (.seq (.region F.C2.r9) (.cond (.tmp 16) (.seq (.region F.C2.r10) (.ret)) (.skip))) (.seq (.seq (.region F.C2.r11) (.cond (.tmp 19) (.seq (.region F.C2.r12) (.ret)) (.skip))) (.seq (.region F.C2.r13) (.ret))))))))
def F.C2 : AFunc := ⟨F.C2.c, [.tmp 4]⟩
def F.F7.r0 : List DOp := [
 Dd 2 (.mv (.const (.bool false)))]
def F.F7.r1 : List DOp := [
 Dd 3 (.mv (.tmp 0)),
 Dd 4 (.mv (.tmp 0)),
 Dd 5 (.bin .neq (.tmp 3) (.tmp 4)),
 Dd 2 (.mv (.tmp 5))]
def F.F7.c : ACode := .seq (.region F.F7.r0) (.seq (.region F.F7.r1) (.ret))
def F.F7 : AFunc := ⟨F.F7.c, [.tmp 2]⟩
end Go.Proofs.Ytmeigkelacoibaa
