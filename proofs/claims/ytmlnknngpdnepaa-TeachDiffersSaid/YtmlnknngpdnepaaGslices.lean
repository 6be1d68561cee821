/- The abstract code of package slices, written by wip/tools/gen.py from the translation. -/
import Derived.Test.YtmlnknngpdnepaaI
namespace Go.Proofs.Ytmlnknngpdnepaa
open Go Go.Ab
/-! slices.Equal[[]int,int] -/
def F.slices_Equal_int_int.r0 : List DOp := [
 Dd 4 (.mv (.const (.bool false)))]
def F.slices_Equal_int_int.r1 : List DOp := [
 Dd 6 (.mv (.tmp 0)),
 Dd 7 (.len (.tmp 6)),
 Dd 8 (.mv (.tmp 1)),
 Dd 9 (.len (.tmp 8)),
 Dd 10 (.bin .neq (.tmp 7) (.tmp 9))]
def F.slices_Equal_int_int.r2 : List DOp := [
 Dd 4 (.mv (.const (.bool false)))]
def F.slices_Equal_int_int.r3 : List DOp := [
 Dd 11 (.mv (.tmp 0)),
 Dd 12 (.len (.tmp 11)),
 Dd 13 (.mv (.const (.int .i64 0)))]
def F.slices_Equal_int_int.r4 : List DOp := [
 Dd 14 (.bin .lss (.tmp 13) (.tmp 12))]
def F.slices_Equal_int_int.r5 : List DOp := [
 Dd 15 (.mv (.tmp 13)),
 Dd 5 (.mv (.tmp 15))]
def F.slices_Equal_int_int.r6 : List DOp := [
 Dd 16 (.mv (.tmp 0)),
 Dd 17 (.mv (.tmp 5)),
 Dd 18 (.idxs 1 (.tmp 16) (.tmp 17)),
 Dd 19 (.load 1 false (.tmp 18)),
 Dd 20 (.mv (.tmp 1)),
 Dd 21 (.mv (.tmp 5)),
 Dd 22 (.idxs 1 (.tmp 20) (.tmp 21)),
 Dd 23 (.load 1 false (.tmp 22)),
 Dd 24 (.bin .neq (.tmp 19) (.tmp 23))]
def F.slices_Equal_int_int.r7 : List DOp := [
 Dd 4 (.mv (.const (.bool false)))]
def F.slices_Equal_int_int.r8 : List DOp := [
 Dd 25 (.bin .add (.tmp 13) (.const (.int .i64 1))),
 Dd 13 (.mv (.tmp 25))]
def F.slices_Equal_int_int.L0 : ACode := .seq (.region F.slices_Equal_int_int.r4) (.seq (.cond (.tmp 14) (.skip) (.exit 0)) (.seq (.block 1 (.seq (.region F.slices_Equal_int_int.r5) (.seq (.draw F.slices_Equal_int_int.r6 []) (.cond (.tmp 24) (.seq (.region F.slices_Equal_int_int.r7) (.ret)) (.skip))))) (.region F.slices_Equal_int_int.r8)))
def F.slices_Equal_int_int.r9 : List DOp := [
 Dd 4 (.mv (.const (.bool true)))]
def F.slices_Equal_int_int.c : ACode := .seq (.region F.slices_Equal_int_int.r0) (.seq (.seq (.region F.slices_Equal_int_int.r1) (.cond (.tmp 10) (.seq (.region F.slices_Equal_int_int.r2) (.ret)) (.skip))) (.seq (.seq (.region F.slices_Equal_int_int.r3) (.block 0 (.loop F.slices_Equal_int_int.L0))) (.seq (.region F.slices_Equal_int_int.r9) (.ret))))
def F.slices_Equal_int_int : AFunc := ⟨F.slices_Equal_int_int.c, [.tmp 4]⟩
/-! slices.Repeat[[]int,int] -/
def F.slices_Repeat_int_int.r0 : List DOp := [
 Dd 4 (.mv (.const (.slice none 0 0)))]
def F.slices_Repeat_int_int.r1 : List DOp := [
 Dd 9 (.mv (.tmp 1)),
 Dd 10 (.bin .lss (.tmp 9) (.const (.int .i64 0)))]
def F.slices_Repeat_int_int.r2 : List DOp := [
 Dd 11 (.iface 9 (.const (.string ⟨#[99, 97, 110, 110, 111, 116, 32, 98, 101, 32, 110, 101, 103, 97, 116, 105, 118, 101]⟩))),
 De (.bad)]
def F.slices_Repeat_int_int.r3 : List DOp := [
 Dd 13 (.mv (.tmp 0)),
 Dd 14 (.len (.tmp 13)),
 Dd 15 (.conv .u64 (.tmp 14)),
 Dd 16 (.mv (.tmp 1)),
 Dd 17 (.conv .u64 (.tmp 16)),
 Dd 18 (.call I.math_bits_Mul [.tmp 15, .tmp 17]),
 Dd 12 (.mv (.tmp 18)),
 Dd 19 (.extract (.tmp 12) 0),
 Dd 20 (.extract (.tmp 12) 1),
 Dd 5 (.mv (.tmp 19)),
 Dd 6 (.mv (.tmp 20))]
def F.slices_Repeat_int_int.r4 : List DOp := [
 Dd 21 (.mv (.tmp 5)),
 Dd 22 (.bin .gtr (.tmp 21) (.const (.int .u64 0))),
 Dd 23 (.mv (.tmp 22)),
 ⟨some 24, .mv (.tmp 6), (some (23, false)), []⟩,
 ⟨some 25, .bin .gtr (.tmp 24) (.const (.int .u64 9223372036854775807)), (some (23, false)), []⟩,
 Dd 26 (.pick (.tmp 23) (.const (.bool true)) (.tmp 25))]
def F.slices_Repeat_int_int.r5 : List DOp := [
 Dd 27 (.iface 9 (.const (.string ⟨#[116, 104, 101, 32, 114, 101, 115, 117, 108, 116, 32, 111, 102, 32, 40, 108, 101, 110, 40, 120, 41, 32, 42, 32, 99, 111, 117, 110, 116, 41, 32, 111, 118, 101, 114, 102, 108, 111, 119, 115]⟩))),
 De (.bad)]
def F.slices_Repeat_int_int.r6 : List DOp := [
 Dd 28 (.mv (.tmp 6)),
 Dd 29 (.conv .i64 (.tmp 28)),
 Dd 30 (.mkslice 1 8 [.int .i64 0] (.tmp 29) (.tmp 29)),
 Dd 7 (.mv (.tmp 30))]
def F.slices_Repeat_int_int.r7 : List DOp := [
 Dd 31 (.mv (.tmp 7)),
 Dd 32 (.mv (.tmp 0)),
 Dd 33 (.copy 1 (.tmp 31) (.tmp 32)),
 Dd 8 (.mv (.tmp 33))]
def F.slices_Repeat_int_int.r8 : List DOp := [
 Dd 34 (.mv (.tmp 8)),
 Dd 35 (.mv (.tmp 7)),
 Dd 36 (.len (.tmp 35)),
 Dd 37 (.bin .lss (.tmp 34) (.tmp 36))]
def F.slices_Repeat_int_int.r9 : List DOp := [
 Dd 38 (.mv (.tmp 8)),
 Dd 39 (.mv (.tmp 7)),
 Dd 40 (.mv (.tmp 8)),
 Dd 41 (.slice 1 (.tmp 39) (some (.tmp 40)) none),
 Dd 42 (.mv (.tmp 7)),
 Dd 43 (.mv (.tmp 8)),
 Dd 44 (.slice 1 (.tmp 42) none (some (.tmp 43))),
 Dd 45 (.copy 1 (.tmp 41) (.tmp 44)),
 Dd 46 (.bin .add (.tmp 38) (.tmp 45)),
 Dd 8 (.mv (.tmp 46))]
def F.slices_Repeat_int_int.L0 : ACode := .seq (.seq (.region F.slices_Repeat_int_int.r8) (.cond (.tmp 37) (.skip) (.exit 0))) (.block 1 (.draw F.slices_Repeat_int_int.r9 []))
def F.slices_Repeat_int_int.r10 : List DOp := [
 Dd 47 (.mv (.tmp 7)),
 Dd 4 (.mv (.tmp 47))]
def F.slices_Repeat_int_int.c : ACode := .seq (.region F.slices_Repeat_int_int.r0) (.seq (.seq (.region F.slices_Repeat_int_int.r1) (.cond (.tmp 10) (.region F.slices_Repeat_int_int.r2) (.skip))) (.seq (.region F.slices_Repeat_int_int.r3) (.seq (.seq (.region F.slices_Repeat_int_int.r4) (.cond (.tmp 26) (.region F.slices_Repeat_int_int.r5) (.skip))) (.seq (.region F.slices_Repeat_int_int.r6) (.seq (.region F.slices_Repeat_int_int.r7) (.seq (.block 0 (.loop F.slices_Repeat_int_int.L0)) (.seq (.region F.slices_Repeat_int_int.r10) (.ret))))))))
def F.slices_Repeat_int_int : AFunc := ⟨F.slices_Repeat_int_int.c, [.tmp 4]⟩
/-! slices.Clone[[]int,int] -/
def F.slices_Clone_int_int.r0 : List DOp := [
 Dd 2 (.mv (.const (.slice none 0 0)))]
def F.slices_Clone_int_int.r1 : List DOp := [
 Dd 3 (.mv (.tmp 0)),
 Dd 4 (.eq false .slice (.tmp 3) (.const (.slice none 0 0)))]
def F.slices_Clone_int_int.r2 : List DOp := [
 Dd 2 (.mv (.const (.slice none 0 0)))]
def F.slices_Clone_int_int.r3 : List DOp := [
 Dd 5 (.bslice 1 0 [] []),
 Dd 6 (.mv (.tmp 0)),
 Dd 7 (.append 1 8 (.tmp 5) (.tmp 6)),
 Dd 2 (.mv (.tmp 7))]
def F.slices_Clone_int_int.c : ACode := .seq (.region F.slices_Clone_int_int.r0) (.seq (.seq (.region F.slices_Clone_int_int.r1) (.cond (.tmp 4) (.seq (.region F.slices_Clone_int_int.r2) (.ret)) (.skip))) (.seq (.region F.slices_Clone_int_int.r3) (.ret)))
def F.slices_Clone_int_int : AFunc := ⟨F.slices_Clone_int_int.c, [.tmp 2]⟩
/-! slices.Contains[[]parlance/mini.task,parlance/mini.task] -/
def F.slices_Contains_mini_task_mini_task.r0 : List DOp := [
 Dd 3 (.box (.tmp 1)),
 Dd 4 (.mv (.const (.bool false)))]
def F.slices_Contains_mini_task_mini_task.r1 : List DOp := [
 Dd 5 (.mv (.tmp 0)),
 Dd 6 (.load 2 true (.tmp 3)),
 Dd 7 (.call I.slices_Index_mini_task_mini_task [.tmp 5, .tmp 6]),
 Dd 8 (.bin .geq (.tmp 7) (.const (.int .i64 0))),
 Dd 4 (.mv (.tmp 8))]
def F.slices_Contains_mini_task_mini_task.c : ACode := .seq (.region F.slices_Contains_mini_task_mini_task.r0) (.seq (.region F.slices_Contains_mini_task_mini_task.r1) (.ret))
def F.slices_Contains_mini_task_mini_task : AFunc := ⟨F.slices_Contains_mini_task_mini_task.c, [.tmp 4]⟩
/-! slices.Contains[[]int,int] -/
def F.slices_Contains_int_int.r0 : List DOp := [
 Dd 4 (.mv (.const (.bool false)))]
def F.slices_Contains_int_int.r1 : List DOp := [
 Dd 5 (.mv (.tmp 0)),
 Dd 6 (.mv (.tmp 1)),
 Dd 7 (.call I.slices_Index_int_int [.tmp 5, .tmp 6]),
 Dd 8 (.bin .geq (.tmp 7) (.const (.int .i64 0))),
 Dd 4 (.mv (.tmp 8))]
def F.slices_Contains_int_int.c : ACode := .seq (.region F.slices_Contains_int_int.r0) (.seq (.region F.slices_Contains_int_int.r1) (.ret))
def F.slices_Contains_int_int : AFunc := ⟨F.slices_Contains_int_int.c, [.tmp 4]⟩
/-! slices.Index[[]parlance/mini.task,parlance/mini.task] -/
def F.slices_Index_mini_task_mini_task.r0 : List DOp := [
 Dd 3 (.box (.tmp 1)),
 Dd 4 (.mv (.const (.int .i64 0)))]
def F.slices_Index_mini_task_mini_task.r1 : List DOp := [
 Dd 6 (.mv (.tmp 0)),
 Dd 7 (.len (.tmp 6)),
 Dd 8 (.mv (.const (.int .i64 0)))]
def F.slices_Index_mini_task_mini_task.r2 : List DOp := [
 Dd 9 (.bin .lss (.tmp 8) (.tmp 7))]
def F.slices_Index_mini_task_mini_task.r3 : List DOp := [
 Dd 10 (.mv (.tmp 8)),
 Dd 5 (.mv (.tmp 10))]
def F.slices_Index_mini_task_mini_task.r4 : List DOp := [
 Dd 11 (.load 2 true (.tmp 3)),
 Dd 12 (.mv (.tmp 0)),
 Dd 13 (.mv (.tmp 5)),
 Dd 14 (.idxs 2 (.tmp 12) (.tmp 13)),
 Dd 15 (.load 2 true (.tmp 14)),
 Dd 16 (.eq false (.struct [(0, .int), (1, .int)]) (.tmp 11) (.tmp 15))]
def F.slices_Index_mini_task_mini_task.r5 : List DOp := [
 Dd 17 (.mv (.tmp 5)),
 Dd 4 (.mv (.tmp 17))]
def F.slices_Index_mini_task_mini_task.r6 : List DOp := [
 Dd 18 (.bin .add (.tmp 8) (.const (.int .i64 1))),
 Dd 8 (.mv (.tmp 18))]
def F.slices_Index_mini_task_mini_task.L0 : ACode := .seq (.region F.slices_Index_mini_task_mini_task.r2) (.seq (.cond (.tmp 9) (.skip) (.exit 0)) (.seq (.block 1 (.seq (.region F.slices_Index_mini_task_mini_task.r3) (.seq (.draw F.slices_Index_mini_task_mini_task.r4 []) (.cond (.tmp 16) (.seq (.region F.slices_Index_mini_task_mini_task.r5) (.ret)) (.skip))))) (.region F.slices_Index_mini_task_mini_task.r6)))
def F.slices_Index_mini_task_mini_task.r7 : List DOp := [
 Dd 4 (.mv (.const (.int .i64 (-1))))]
def F.slices_Index_mini_task_mini_task.c : ACode := .seq (.region F.slices_Index_mini_task_mini_task.r0) (.seq (.seq (.region F.slices_Index_mini_task_mini_task.r1) (.block 0 (.loop F.slices_Index_mini_task_mini_task.L0))) (.seq (.region F.slices_Index_mini_task_mini_task.r7) (.ret)))
def F.slices_Index_mini_task_mini_task : AFunc := ⟨F.slices_Index_mini_task_mini_task.c, [.tmp 4]⟩
/-! slices.Index[[]int,int] -/
def F.slices_Index_int_int.r0 : List DOp := [
 Dd 4 (.mv (.const (.int .i64 0)))]
def F.slices_Index_int_int.r1 : List DOp := [
 Dd 6 (.mv (.tmp 0)),
 Dd 7 (.len (.tmp 6)),
 Dd 8 (.mv (.const (.int .i64 0)))]
def F.slices_Index_int_int.r2 : List DOp := [
 Dd 9 (.bin .lss (.tmp 8) (.tmp 7))]
def F.slices_Index_int_int.r3 : List DOp := [
 Dd 10 (.mv (.tmp 8)),
 Dd 5 (.mv (.tmp 10))]
def F.slices_Index_int_int.r4 : List DOp := [
 Dd 11 (.mv (.tmp 1)),
 Dd 12 (.mv (.tmp 0)),
 Dd 13 (.mv (.tmp 5)),
 Dd 14 (.idxs 1 (.tmp 12) (.tmp 13)),
 Dd 15 (.load 1 false (.tmp 14)),
 Dd 16 (.bin .eql (.tmp 11) (.tmp 15))]
def F.slices_Index_int_int.r5 : List DOp := [
 Dd 17 (.mv (.tmp 5)),
 Dd 4 (.mv (.tmp 17))]
def F.slices_Index_int_int.r6 : List DOp := [
 Dd 18 (.bin .add (.tmp 8) (.const (.int .i64 1))),
 Dd 8 (.mv (.tmp 18))]
def F.slices_Index_int_int.L0 : ACode := .seq (.region F.slices_Index_int_int.r2) (.seq (.cond (.tmp 9) (.skip) (.exit 0)) (.seq (.block 1 (.seq (.region F.slices_Index_int_int.r3) (.seq (.region F.slices_Index_int_int.r4) (.cond (.tmp 16) (.seq (.region F.slices_Index_int_int.r5) (.ret)) (.skip))))) (.region F.slices_Index_int_int.r6)))
def F.slices_Index_int_int.r7 : List DOp := [
 Dd 4 (.mv (.const (.int .i64 (-1))))]
def F.slices_Index_int_int.c : ACode := .seq (.region F.slices_Index_int_int.r0) (.seq (.seq (.region F.slices_Index_int_int.r1) (.block 0 (.loop F.slices_Index_int_int.L0))) (.seq (.region F.slices_Index_int_int.r7) (.ret)))
def F.slices_Index_int_int : AFunc := ⟨F.slices_Index_int_int.c, [.tmp 4]⟩
end Go.Proofs.Ytmlnknngpdnepaa
