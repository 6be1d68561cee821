/- The abstract code of package cmp, written by wip/tools/gen.py from the translation. -/
import Derived.Test.YtcdhhelgoppleaaI
namespace Go.Proofs.Ytcdhhelgoppleaa
open Go Go.Ab
/-! cmp.Compare[int] -/
def F.cmp_Compare_int.r0 : List DOp := [
 Dd 4 (.mv (.const (.int .i64 0)))]
def F.cmp_Compare_int.r1 : List DOp := [
 Dd 7 (.mv (.tmp 0)),
 Dd 8 (.call I.cmp_isNaN_int [.tmp 7]),
 Dd 5 (.mv (.tmp 8))]
def F.cmp_Compare_int.r2 : List DOp := [
 Dd 9 (.mv (.tmp 1)),
 Dd 10 (.call I.cmp_isNaN_int [.tmp 9]),
 Dd 6 (.mv (.tmp 10))]
def F.cmp_Compare_int.r3 : List DOp := [
 Dd 11 (.mv (.tmp 5))]
def F.cmp_Compare_int.r4 : List DOp := [
 Dd 12 (.mv (.tmp 6))]
def F.cmp_Compare_int.r5 : List DOp := [
 Dd 4 (.mv (.const (.int .i64 0)))]
def F.cmp_Compare_int.r6 : List DOp := [
 Dd 4 (.mv (.const (.int .i64 (-1))))]
def F.cmp_Compare_int.r7 : List DOp := [
 Dd 13 (.mv (.tmp 6))]
def F.cmp_Compare_int.r8 : List DOp := [
 Dd 4 (.mv (.const (.int .i64 1)))]
def F.cmp_Compare_int.r9 : List DOp := [
 Dd 14 (.mv (.tmp 0)),
 Dd 15 (.mv (.tmp 1)),
 Dd 16 (.bin .lss (.tmp 14) (.tmp 15))]
def F.cmp_Compare_int.r10 : List DOp := [
 Dd 4 (.mv (.const (.int .i64 (-1))))]
def F.cmp_Compare_int.r11 : List DOp := [
 Dd 17 (.mv (.tmp 0)),
 Dd 18 (.mv (.tmp 1)),
 Dd 19 (.bin .gtr (.tmp 17) (.tmp 18))]
def F.cmp_Compare_int.r12 : List DOp := [
 Dd 4 (.mv (.const (.int .i64 1)))]
def F.cmp_Compare_int.r13 : List DOp := [
 Dd 4 (.mv (.const (.int .i64 0)))]
def F.cmp_Compare_int.c : ACode := .seq (.region F.cmp_Compare_int.r0) (.seq (.region F.cmp_Compare_int.r1) (.seq (.region F.cmp_Compare_int.r2) (.seq (.seq (.region F.cmp_Compare_int.r3) (.cond (.tmp 11) (.seq (.seq (.region F.cmp_Compare_int.r4) (.cond (.tmp 12) (.seq (.region F.cmp_Compare_int.r5) (.ret)) (.skip))) (.seq (.region F.cmp_Compare_int.r6) (.ret))) (.skip))) (.seq (.seq (.region F.cmp_Compare_int.r7) (.cond (.tmp 13) (.seq (.region F.cmp_Compare_int.r8) (.ret)) (.skip))) (.seq (.seq (.region F.cmp_Compare_int.r9) (.cond (.tmp 16) (.seq (.region F.cmp_Compare_int.r10) (.ret)) (.skip))) (.seq (.seq (.region F.cmp_Compare_int.r11) (.cond (.tmp 19) (.seq (.region F.cmp_Compare_int.r12) (.ret)) (.skip))) (.seq (.region F.cmp_Compare_int.r13) (.ret))))))))
def F.cmp_Compare_int : AFunc := ⟨F.cmp_Compare_int.c, [.tmp 4]⟩
/-! cmp.isNaN[int] -/
def F.cmp_isNaN_int.r0 : List DOp := [
 Dd 2 (.mv (.const (.bool false)))]
def F.cmp_isNaN_int.r1 : List DOp := [
 Dd 3 (.mv (.tmp 0)),
 Dd 4 (.mv (.tmp 0)),
 Dd 5 (.bin .neq (.tmp 3) (.tmp 4)),
 Dd 2 (.mv (.tmp 5))]
def F.cmp_isNaN_int.c : ACode := .seq (.region F.cmp_isNaN_int.r0) (.seq (.region F.cmp_isNaN_int.r1) (.ret))
def F.cmp_isNaN_int : AFunc := ⟨F.cmp_isNaN_int.c, [.tmp 2]⟩
end Go.Proofs.Ytcdhhelgoppleaa
