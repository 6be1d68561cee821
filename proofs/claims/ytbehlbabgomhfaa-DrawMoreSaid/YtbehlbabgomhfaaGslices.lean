/- The abstract code of package slices, written by wip/tools/gen.py from the translation. -/
import Derived.Test.YtbehlbabgomhfaaI
namespace Go.Proofs.Ytbehlbabgomhfaa
open Go Go.Ab
/-! slices.Concat[[]bool,bool] -/
def F.slices_Concat_bool_bool.r0 : List DOp := [
 Dd 2 (.mv (.const (.slice none 0 0)))]
def F.slices_Concat_bool_bool.r1 : List DOp := [
 Dd 3 (.mv (.const (.int .i64 0)))]
def F.slices_Concat_bool_bool.r2 : List DOp := [
 Dd 9 (.mv (.tmp 0)),
 Dd 10 (.len (.tmp 9)),
 Dd 11 (.mv (.const (.int .i64 0)))]
def F.slices_Concat_bool_bool.r3 : List DOp := [
 Dd 12 (.bin .lss (.tmp 11) (.tmp 10))]
def F.slices_Concat_bool_bool.r4 : List DOp := [
 Dd 13 (.idxs 1 (.tmp 9) (.tmp 11)),
 Dd 14 (.load 1 false (.tmp 13)),
 Dd 5 (.mv (.tmp 14))]
def F.slices_Concat_bool_bool.r5 : List DOp := [
 Dd 15 (.mv (.tmp 3)),
 Dd 16 (.mv (.tmp 5)),
 Dd 17 (.len (.tmp 16)),
 Dd 18 (.bin .add (.tmp 15) (.tmp 17)),
 Dd 3 (.mv (.tmp 18))]
def F.slices_Concat_bool_bool.r6 : List DOp := [
 Dd 19 (.mv (.tmp 3)),
 Dd 20 (.bin .lss (.tmp 19) (.const (.int .i64 0)))]
def F.slices_Concat_bool_bool.r7 : List DOp := [
 Dd 21 (.iface 9 (.const (.string ({ data := #[108, 101, 110, 32, 111, 117, 116, 32, 111, 102, 32, 114, 97, 110, 103, 101] })))),
 De (.bad)]
def F.slices_Concat_bool_bool.r8 : List DOp := [
 Dd 22 (.bin .add (.tmp 11) (.const (.int .i64 1))),
 Dd 11 (.mv (.tmp 22))]
def F.slices_Concat_bool_bool.L0 : ACode := .seq (.region F.slices_Concat_bool_bool.r3) (.seq (.cond (.tmp 12) (.skip) (.exit 0)) (.seq (.block 1 (.seq (.region F.slices_Concat_bool_bool.r4) (.seq (.region F.slices_Concat_bool_bool.r5) (.seq (.region F.slices_Concat_bool_bool.r6) (.cond (.tmp 20) (.region F.slices_Concat_bool_bool.r7) (.skip)))))) (.region F.slices_Concat_bool_bool.r8)))
def F.slices_Concat_bool_bool.r9 : List DOp := [
 Dd 23 (.mv (.tmp 3)),
 Dd 24 (.call I.slices_Grow_bool_bool [.const (.slice none 0 0), .tmp 23]),
 Dd 6 (.mv (.tmp 24))]
def F.slices_Concat_bool_bool.r10 : List DOp := [
 Dd 25 (.mv (.tmp 0)),
 Dd 26 (.len (.tmp 25)),
 Dd 27 (.mv (.const (.int .i64 0)))]
def F.slices_Concat_bool_bool.r11 : List DOp := [
 Dd 28 (.bin .lss (.tmp 27) (.tmp 26))]
def F.slices_Concat_bool_bool.r12 : List DOp := [
 Dd 29 (.idxs 1 (.tmp 25) (.tmp 27)),
 Dd 30 (.load 1 false (.tmp 29)),
 Dd 8 (.mv (.tmp 30))]
def F.slices_Concat_bool_bool.r13 : List DOp := [
 Dd 31 (.mv (.tmp 6)),
 Dd 32 (.mv (.tmp 8)),
 Dd 33 (.append 1 1 (.tmp 31) (.tmp 32)),
 Dd 6 (.mv (.tmp 33))]
def F.slices_Concat_bool_bool.r14 : List DOp := [
 Dd 34 (.bin .add (.tmp 27) (.const (.int .i64 1))),
 Dd 27 (.mv (.tmp 34))]
def F.slices_Concat_bool_bool.L1 : ACode := .seq (.region F.slices_Concat_bool_bool.r11) (.seq (.cond (.tmp 28) (.skip) (.exit 2)) (.seq (.block 3 (.seq (.region F.slices_Concat_bool_bool.r12) (.region F.slices_Concat_bool_bool.r13))) (.region F.slices_Concat_bool_bool.r14)))
def F.slices_Concat_bool_bool.r15 : List DOp := [
 Dd 35 (.mv (.tmp 6)),
 Dd 2 (.mv (.tmp 35))]
def F.slices_Concat_bool_bool.c : ACode := .seq (.region F.slices_Concat_bool_bool.r0) (.seq (.region F.slices_Concat_bool_bool.r1) (.seq (.seq (.region F.slices_Concat_bool_bool.r2) (.block 0 (.loop F.slices_Concat_bool_bool.L0))) (.seq (.region F.slices_Concat_bool_bool.r9) (.seq (.seq (.region F.slices_Concat_bool_bool.r10) (.block 2 (.loop F.slices_Concat_bool_bool.L1))) (.seq (.region F.slices_Concat_bool_bool.r15) (.ret))))))
def F.slices_Concat_bool_bool : AFunc := ⟨F.slices_Concat_bool_bool.c, [.tmp 2]⟩
/-! slices.Grow[[]bool,bool] -/
def F.slices_Grow_bool_bool.r0 : List DOp := [
 Dd 4 (.mv (.const (.slice none 0 0)))]
def F.slices_Grow_bool_bool.r1 : List DOp := [
 Dd 5 (.mv (.tmp 1)),
 Dd 6 (.bin .lss (.tmp 5) (.const (.int .i64 0)))]
def F.slices_Grow_bool_bool.r2 : List DOp := [
 Dd 7 (.iface 9 (.const (.string ({ data := #[99, 97, 110, 110, 111, 116, 32, 98, 101, 32, 110, 101, 103, 97, 116, 105, 118, 101] })))),
 De (.bad)]
def F.slices_Grow_bool_bool.r3 : List DOp := [
 Dd 8 (.mv (.tmp 1)),
 Dd 9 (.mv (.tmp 0)),
 Dd 10 (.capn (.tmp 9)),
 Dd 11 (.mv (.tmp 0)),
 Dd 12 (.len (.tmp 11)),
 Dd 13 (.bin .sub (.tmp 10) (.tmp 12)),
 Dd 14 (.bin .sub (.tmp 8) (.tmp 13)),
 Dd 1 (.mv (.tmp 14))]
def F.slices_Grow_bool_bool.r4 : List DOp := [
 Dd 15 (.mv (.tmp 1)),
 Dd 16 (.bin .gtr (.tmp 15) (.const (.int .i64 0)))]
def F.slices_Grow_bool_bool.r5 : List DOp := [
 Dd 17 (.mv (.tmp 0)),
 Dd 18 (.mv (.tmp 0)),
 Dd 19 (.capn (.tmp 18)),
 Dd 20 (.slice 1 (.tmp 17) none (some (.tmp 19))),
 Dd 21 (.mv (.tmp 1)),
 Dd 22 (.appk 1 1 (.tmp 20) (.tmp 21)),
 Dd 23 (.mv (.tmp 0)),
 Dd 24 (.len (.tmp 23)),
 Dd 25 (.slice 1 (.tmp 22) none (some (.tmp 24))),
 Dd 0 (.mv (.tmp 25))]
def F.slices_Grow_bool_bool.r6 : List DOp := [
 Dd 26 (.mv (.tmp 0)),
 Dd 4 (.mv (.tmp 26))]
def F.slices_Grow_bool_bool.c : ACode := .seq (.region F.slices_Grow_bool_bool.r0) (.seq (.seq (.region F.slices_Grow_bool_bool.r1) (.cond (.tmp 6) (.region F.slices_Grow_bool_bool.r2) (.skip))) (.seq (.seq (.region F.slices_Grow_bool_bool.r3) (.seq (.region F.slices_Grow_bool_bool.r4) (.cond (.tmp 16) (.region F.slices_Grow_bool_bool.r5) (.skip)))) (.seq (.region F.slices_Grow_bool_bool.r6) (.ret))))
def F.slices_Grow_bool_bool : AFunc := ⟨F.slices_Grow_bool_bool.c, [.tmp 4]⟩
end Go.Proofs.Ytbehlbabgomhfaa
