/- The abstract code of package slices, written by wip/tools/gen.py from the translation. -/
import Derived.Test.YtbehlbabgomhfaaI
namespace Go.Proofs.Ytbehlbabgomhfaa
open Go Go.Ab
/-! slices.Concat[[]bool,bool] -/
def F.slices_Concat_bool_bool.r0 : List DOp := [
  ⟨some 2, .mv (.const (.slice none 0 0)), none, []⟩]
def F.slices_Concat_bool_bool.r1 : List DOp := [
  ⟨some 3, .mv (.const (.int .i64 0)), none, []⟩]
def F.slices_Concat_bool_bool.r2 : List DOp := [
  ⟨some 9, .mv (.tmp 0), none, []⟩,
  ⟨some 10, .len (.tmp 9), none, []⟩,
  ⟨some 11, .mv (.const (.int .i64 0)), none, []⟩]
def F.slices_Concat_bool_bool.r3 : List DOp := [
  ⟨some 12, .bin .lss (.tmp 11) (.tmp 10), none, []⟩]
def F.slices_Concat_bool_bool.r4 : List DOp := [
  ⟨some 13, .idxs 1 (.tmp 9) (.tmp 11), none, []⟩,
  ⟨some 14, .load 1 false (.tmp 13), none, []⟩,
  ⟨some 5, .mv (.tmp 14), none, []⟩]
def F.slices_Concat_bool_bool.r5 : List DOp := [
  ⟨some 15, .mv (.tmp 3), none, []⟩,
  ⟨some 16, .mv (.tmp 5), none, []⟩,
  ⟨some 17, .len (.tmp 16), none, []⟩,
  ⟨some 18, .bin .add (.tmp 15) (.tmp 17), none, []⟩,
  ⟨some 3, .mv (.tmp 18), none, []⟩]
def F.slices_Concat_bool_bool.r6 : List DOp := [
  ⟨some 19, .mv (.tmp 3), none, []⟩,
  ⟨some 20, .bin .lss (.tmp 19) (.const (.int .i64 0)), none, []⟩]
def F.slices_Concat_bool_bool.r7 : List DOp := [
  ⟨some 21, .iface 9 (.const (.string ({ data := #[108, 101, 110, 32, 111, 117, 116, 32, 111, 102, 32, 114, 97, 110, 103, 101] }))), none, []⟩,
  ⟨none, .bad, none, []⟩]
def F.slices_Concat_bool_bool.r8 : List DOp := [
  ⟨some 22, .bin .add (.tmp 11) (.const (.int .i64 1)), none, []⟩,
  ⟨some 11, .mv (.tmp 22), none, []⟩]
def F.slices_Concat_bool_bool.L0 : ACode := .seq (.region F.slices_Concat_bool_bool.r3) (.seq (.cond (.tmp 12) (.skip) (.exit 0)) (.seq (.block 1 (.seq (.region F.slices_Concat_bool_bool.r4) (.seq (.region F.slices_Concat_bool_bool.r5) (.seq (.region F.slices_Concat_bool_bool.r6) (.cond (.tmp 20) (.region F.slices_Concat_bool_bool.r7) (.skip)))))) (.region F.slices_Concat_bool_bool.r8)))
def F.slices_Concat_bool_bool.r9 : List DOp := [
  ⟨some 23, .mv (.tmp 3), none, []⟩,
  ⟨some 24, .call I.slices_Grow_bool_bool [.const (.slice none 0 0), .tmp 23], none, []⟩,
  ⟨some 6, .mv (.tmp 24), none, []⟩]
def F.slices_Concat_bool_bool.r10 : List DOp := [
  ⟨some 25, .mv (.tmp 0), none, []⟩,
  ⟨some 26, .len (.tmp 25), none, []⟩,
  ⟨some 27, .mv (.const (.int .i64 0)), none, []⟩]
def F.slices_Concat_bool_bool.r11 : List DOp := [
  ⟨some 28, .bin .lss (.tmp 27) (.tmp 26), none, []⟩]
def F.slices_Concat_bool_bool.r12 : List DOp := [
  ⟨some 29, .idxs 1 (.tmp 25) (.tmp 27), none, []⟩,
  ⟨some 30, .load 1 false (.tmp 29), none, []⟩,
  ⟨some 8, .mv (.tmp 30), none, []⟩]
def F.slices_Concat_bool_bool.r13 : List DOp := [
  ⟨some 31, .mv (.tmp 6), none, []⟩,
  ⟨some 32, .mv (.tmp 8), none, []⟩,
  ⟨some 33, .append 1 1 (.tmp 31) (.tmp 32), none, []⟩,
  ⟨some 6, .mv (.tmp 33), none, []⟩]
def F.slices_Concat_bool_bool.r14 : List DOp := [
  ⟨some 34, .bin .add (.tmp 27) (.const (.int .i64 1)), none, []⟩,
  ⟨some 27, .mv (.tmp 34), none, []⟩]
def F.slices_Concat_bool_bool.L1 : ACode := .seq (.region F.slices_Concat_bool_bool.r11) (.seq (.cond (.tmp 28) (.skip) (.exit 2)) (.seq (.block 3 (.seq (.region F.slices_Concat_bool_bool.r12) (.region F.slices_Concat_bool_bool.r13))) (.region F.slices_Concat_bool_bool.r14)))
def F.slices_Concat_bool_bool.r15 : List DOp := [
  ⟨some 35, .mv (.tmp 6), none, []⟩,
  ⟨some 2, .mv (.tmp 35), none, []⟩]
def F.slices_Concat_bool_bool.c : ACode := .seq (.region F.slices_Concat_bool_bool.r0) (.seq (.region F.slices_Concat_bool_bool.r1) (.seq (.seq (.region F.slices_Concat_bool_bool.r2) (.block 0 (.loop F.slices_Concat_bool_bool.L0))) (.seq (.region F.slices_Concat_bool_bool.r9) (.seq (.seq (.region F.slices_Concat_bool_bool.r10) (.block 2 (.loop F.slices_Concat_bool_bool.L1))) (.seq (.region F.slices_Concat_bool_bool.r15) (.ret))))))
def F.slices_Concat_bool_bool : AFunc := ⟨F.slices_Concat_bool_bool.c, [.tmp 2]⟩
/-! slices.Min[[]int,int] -/
def F.slices_Min_int_int.r0 : List DOp := [
  ⟨some 2, .mv (.const (.int .i64 0)), none, []⟩]
def F.slices_Min_int_int.r1 : List DOp := [
  ⟨some 5, .mv (.tmp 0), none, []⟩,
  ⟨some 6, .len (.tmp 5), none, []⟩,
  ⟨some 7, .bin .lss (.tmp 6) (.const (.int .i64 1)), none, []⟩]
def F.slices_Min_int_int.r2 : List DOp := [
  ⟨some 8, .iface 9 (.const (.string ({ data := #[115, 108, 105, 99, 101, 115, 46, 77, 105, 110, 58, 32, 101, 109, 112, 116, 121, 32, 108, 105, 115, 116] }))), none, []⟩,
  ⟨none, .bad, none, []⟩]
def F.slices_Min_int_int.r3 : List DOp := [
  ⟨some 9, .mv (.tmp 0), none, []⟩,
  ⟨some 10, .idxs 1 (.tmp 9) (.const (.int .i64 0)), none, []⟩,
  ⟨some 11, .load 1 false (.tmp 10), none, []⟩,
  ⟨some 3, .mv (.tmp 11), none, []⟩]
def F.slices_Min_int_int.r4 : List DOp := [
  ⟨some 4, .mv (.const (.int .i64 1)), none, []⟩]
def F.slices_Min_int_int.r5 : List DOp := [
  ⟨some 12, .mv (.tmp 4), none, []⟩,
  ⟨some 13, .mv (.tmp 0), none, []⟩,
  ⟨some 14, .len (.tmp 13), none, []⟩,
  ⟨some 15, .bin .lss (.tmp 12) (.tmp 14), none, []⟩]
def F.slices_Min_int_int.r7 : List DOp := [
  ⟨some 18, .mv (.tmp 3), none, []⟩,
  ⟨some 19, .mv (.tmp 0), none, []⟩,
  ⟨some 20, .mv (.tmp 4), none, []⟩,
  ⟨some 21, .idxs 1 (.tmp 19) (.tmp 20), none, []⟩,
  ⟨some 22, .load 1 false (.tmp 21), none, []⟩,
  ⟨some 23, .mm false [.tmp 18, .tmp 22], none, []⟩,
  ⟨some 3, .mv (.tmp 23), none, []⟩]
def F.slices_Min_int_int.r6 : List DOp := [
  ⟨some 16, .mv (.tmp 4), none, []⟩,
  ⟨some 17, .bin .add (.tmp 16) (.const (.int .i64 1)), none, []⟩,
  ⟨some 4, .mv (.tmp 17), none, []⟩]
def F.slices_Min_int_int.L0 : ACode := .seq (.seq (.region F.slices_Min_int_int.r5) (.cond (.tmp 15) (.skip) (.exit 0))) (.seq (.block 1 (.region F.slices_Min_int_int.r7)) (.region F.slices_Min_int_int.r6))
def F.slices_Min_int_int.r8 : List DOp := [
  ⟨some 24, .mv (.tmp 3), none, []⟩,
  ⟨some 2, .mv (.tmp 24), none, []⟩]
def F.slices_Min_int_int.c : ACode := .seq (.region F.slices_Min_int_int.r0) (.seq (.seq (.region F.slices_Min_int_int.r1) (.cond (.tmp 7) (.region F.slices_Min_int_int.r2) (.skip))) (.seq (.region F.slices_Min_int_int.r3) (.seq (.seq (.region F.slices_Min_int_int.r4) (.block 0 (.loop F.slices_Min_int_int.L0))) (.seq (.region F.slices_Min_int_int.r8) (.ret)))))
def F.slices_Min_int_int : AFunc := ⟨F.slices_Min_int_int.c, [.tmp 2]⟩
/-! slices.Max[[]int,int] -/
def F.slices_Max_int_int.r0 : List DOp := [
  ⟨some 2, .mv (.const (.int .i64 0)), none, []⟩]
def F.slices_Max_int_int.r1 : List DOp := [
  ⟨some 5, .mv (.tmp 0), none, []⟩,
  ⟨some 6, .len (.tmp 5), none, []⟩,
  ⟨some 7, .bin .lss (.tmp 6) (.const (.int .i64 1)), none, []⟩]
def F.slices_Max_int_int.r2 : List DOp := [
  ⟨some 8, .iface 9 (.const (.string ({ data := #[115, 108, 105, 99, 101, 115, 46, 77, 97, 120, 58, 32, 101, 109, 112, 116, 121, 32, 108, 105, 115, 116] }))), none, []⟩,
  ⟨none, .bad, none, []⟩]
def F.slices_Max_int_int.r3 : List DOp := [
  ⟨some 9, .mv (.tmp 0), none, []⟩,
  ⟨some 10, .idxs 1 (.tmp 9) (.const (.int .i64 0)), none, []⟩,
  ⟨some 11, .load 1 false (.tmp 10), none, []⟩,
  ⟨some 3, .mv (.tmp 11), none, []⟩]
def F.slices_Max_int_int.r4 : List DOp := [
  ⟨some 4, .mv (.const (.int .i64 1)), none, []⟩]
def F.slices_Max_int_int.r5 : List DOp := [
  ⟨some 12, .mv (.tmp 4), none, []⟩,
  ⟨some 13, .mv (.tmp 0), none, []⟩,
  ⟨some 14, .len (.tmp 13), none, []⟩,
  ⟨some 15, .bin .lss (.tmp 12) (.tmp 14), none, []⟩]
def F.slices_Max_int_int.r7 : List DOp := [
  ⟨some 18, .mv (.tmp 3), none, []⟩,
  ⟨some 19, .mv (.tmp 0), none, []⟩,
  ⟨some 20, .mv (.tmp 4), none, []⟩,
  ⟨some 21, .idxs 1 (.tmp 19) (.tmp 20), none, []⟩,
  ⟨some 22, .load 1 false (.tmp 21), none, []⟩,
  ⟨some 23, .mm true [.tmp 18, .tmp 22], none, []⟩,
  ⟨some 3, .mv (.tmp 23), none, []⟩]
def F.slices_Max_int_int.r6 : List DOp := [
  ⟨some 16, .mv (.tmp 4), none, []⟩,
  ⟨some 17, .bin .add (.tmp 16) (.const (.int .i64 1)), none, []⟩,
  ⟨some 4, .mv (.tmp 17), none, []⟩]
def F.slices_Max_int_int.L0 : ACode := .seq (.seq (.region F.slices_Max_int_int.r5) (.cond (.tmp 15) (.skip) (.exit 0))) (.seq (.block 1 (.region F.slices_Max_int_int.r7)) (.region F.slices_Max_int_int.r6))
def F.slices_Max_int_int.r8 : List DOp := [
  ⟨some 24, .mv (.tmp 3), none, []⟩,
  ⟨some 2, .mv (.tmp 24), none, []⟩]
def F.slices_Max_int_int.c : ACode := .seq (.region F.slices_Max_int_int.r0) (.seq (.seq (.region F.slices_Max_int_int.r1) (.cond (.tmp 7) (.region F.slices_Max_int_int.r2) (.skip))) (.seq (.region F.slices_Max_int_int.r3) (.seq (.seq (.region F.slices_Max_int_int.r4) (.block 0 (.loop F.slices_Max_int_int.L0))) (.seq (.region F.slices_Max_int_int.r8) (.ret)))))
def F.slices_Max_int_int : AFunc := ⟨F.slices_Max_int_int.c, [.tmp 2]⟩
/-! slices.Contains[[]int,int] -/
def F.slices_Contains_int_int.r0 : List DOp := [
  ⟨some 4, .mv (.const (.bool false)), none, []⟩]
def F.slices_Contains_int_int.r1 : List DOp := [
  ⟨some 5, .mv (.tmp 0), none, []⟩,
  ⟨some 6, .mv (.tmp 1), none, []⟩,
  ⟨some 7, .call I.slices_Index_int_int [.tmp 5, .tmp 6], none, []⟩,
  ⟨some 8, .bin .geq (.tmp 7) (.const (.int .i64 0)), none, []⟩,
  ⟨some 4, .mv (.tmp 8), none, []⟩]
def F.slices_Contains_int_int.c : ACode := .seq (.region F.slices_Contains_int_int.r0) (.seq (.region F.slices_Contains_int_int.r1) (.ret))
def F.slices_Contains_int_int : AFunc := ⟨F.slices_Contains_int_int.c, [.tmp 4]⟩
/-! slices.Equal[[]int,int] -/
def F.slices_Equal_int_int.r0 : List DOp := [
  ⟨some 4, .mv (.const (.bool false)), none, []⟩]
def F.slices_Equal_int_int.r1 : List DOp := [
  ⟨some 6, .mv (.tmp 0), none, []⟩,
  ⟨some 7, .len (.tmp 6), none, []⟩,
  ⟨some 8, .mv (.tmp 1), none, []⟩,
  ⟨some 9, .len (.tmp 8), none, []⟩,
  ⟨some 10, .bin .neq (.tmp 7) (.tmp 9), none, []⟩]
def F.slices_Equal_int_int.r2 : List DOp := [
  ⟨some 4, .mv (.const (.bool false)), none, []⟩]
def F.slices_Equal_int_int.r3 : List DOp := [
  ⟨some 11, .mv (.tmp 0), none, []⟩,
  ⟨some 12, .len (.tmp 11), none, []⟩,
  ⟨some 13, .mv (.const (.int .i64 0)), none, []⟩]
def F.slices_Equal_int_int.r4 : List DOp := [
  ⟨some 14, .bin .lss (.tmp 13) (.tmp 12), none, []⟩]
def F.slices_Equal_int_int.r5 : List DOp := [
  ⟨some 15, .mv (.tmp 13), none, []⟩,
  ⟨some 5, .mv (.tmp 15), none, []⟩]
def F.slices_Equal_int_int.r6 : List DOp := [
  ⟨some 16, .mv (.tmp 0), none, []⟩,
  ⟨some 17, .mv (.tmp 5), none, []⟩,
  ⟨some 18, .idxs 1 (.tmp 16) (.tmp 17), none, []⟩,
  ⟨some 19, .load 1 false (.tmp 18), none, []⟩,
  ⟨some 20, .mv (.tmp 1), none, []⟩,
  ⟨some 21, .mv (.tmp 5), none, []⟩,
  ⟨some 22, .idxs 1 (.tmp 20) (.tmp 21), none, []⟩,
  ⟨some 23, .load 1 false (.tmp 22), none, []⟩,
  ⟨some 24, .bin .neq (.tmp 19) (.tmp 23), none, []⟩]
def F.slices_Equal_int_int.r7 : List DOp := [
  ⟨some 4, .mv (.const (.bool false)), none, []⟩]
def F.slices_Equal_int_int.r8 : List DOp := [
  ⟨some 25, .bin .add (.tmp 13) (.const (.int .i64 1)), none, []⟩,
  ⟨some 13, .mv (.tmp 25), none, []⟩]
def F.slices_Equal_int_int.L0 : ACode := .seq (.region F.slices_Equal_int_int.r4) (.seq (.cond (.tmp 14) (.skip) (.exit 0)) (.seq (.block 1 (.seq (.region F.slices_Equal_int_int.r5) (.seq (.draw F.slices_Equal_int_int.r6 []) (.cond (.tmp 24) (.seq (.region F.slices_Equal_int_int.r7) (.ret)) (.skip))))) (.region F.slices_Equal_int_int.r8)))
def F.slices_Equal_int_int.r9 : List DOp := [
  ⟨some 4, .mv (.const (.bool true)), none, []⟩]
def F.slices_Equal_int_int.c : ACode := .seq (.region F.slices_Equal_int_int.r0) (.seq (.seq (.region F.slices_Equal_int_int.r1) (.cond (.tmp 10) (.seq (.region F.slices_Equal_int_int.r2) (.ret)) (.skip))) (.seq (.seq (.region F.slices_Equal_int_int.r3) (.block 0 (.loop F.slices_Equal_int_int.L0))) (.seq (.region F.slices_Equal_int_int.r9) (.ret))))
def F.slices_Equal_int_int : AFunc := ⟨F.slices_Equal_int_int.c, [.tmp 4]⟩
/-! slices.Concat[[]int,int] -/
def F.slices_Concat_int_int.r0 : List DOp := [
  ⟨some 2, .mv (.const (.slice none 0 0)), none, []⟩]
def F.slices_Concat_int_int.r1 : List DOp := [
  ⟨some 3, .mv (.const (.int .i64 0)), none, []⟩]
def F.slices_Concat_int_int.r2 : List DOp := [
  ⟨some 9, .mv (.tmp 0), none, []⟩,
  ⟨some 10, .len (.tmp 9), none, []⟩,
  ⟨some 11, .mv (.const (.int .i64 0)), none, []⟩]
def F.slices_Concat_int_int.r3 : List DOp := [
  ⟨some 12, .bin .lss (.tmp 11) (.tmp 10), none, []⟩]
def F.slices_Concat_int_int.r4 : List DOp := [
  ⟨some 13, .idxs 1 (.tmp 9) (.tmp 11), none, []⟩,
  ⟨some 14, .load 1 false (.tmp 13), none, []⟩,
  ⟨some 5, .mv (.tmp 14), none, []⟩]
def F.slices_Concat_int_int.r5 : List DOp := [
  ⟨some 15, .mv (.tmp 3), none, []⟩,
  ⟨some 16, .mv (.tmp 5), none, []⟩,
  ⟨some 17, .len (.tmp 16), none, []⟩,
  ⟨some 18, .bin .add (.tmp 15) (.tmp 17), none, []⟩,
  ⟨some 3, .mv (.tmp 18), none, []⟩]
def F.slices_Concat_int_int.r6 : List DOp := [
  ⟨some 19, .mv (.tmp 3), none, []⟩,
  ⟨some 20, .bin .lss (.tmp 19) (.const (.int .i64 0)), none, []⟩]
def F.slices_Concat_int_int.r7 : List DOp := [
  ⟨some 21, .iface 9 (.const (.string ({ data := #[108, 101, 110, 32, 111, 117, 116, 32, 111, 102, 32, 114, 97, 110, 103, 101] }))), none, []⟩,
  ⟨none, .bad, none, []⟩]
def F.slices_Concat_int_int.r8 : List DOp := [
  ⟨some 22, .bin .add (.tmp 11) (.const (.int .i64 1)), none, []⟩,
  ⟨some 11, .mv (.tmp 22), none, []⟩]
def F.slices_Concat_int_int.L0 : ACode := .seq (.region F.slices_Concat_int_int.r3) (.seq (.cond (.tmp 12) (.skip) (.exit 0)) (.seq (.block 1 (.seq (.region F.slices_Concat_int_int.r4) (.seq (.region F.slices_Concat_int_int.r5) (.seq (.region F.slices_Concat_int_int.r6) (.cond (.tmp 20) (.region F.slices_Concat_int_int.r7) (.skip)))))) (.region F.slices_Concat_int_int.r8)))
def F.slices_Concat_int_int.r9 : List DOp := [
  ⟨some 23, .mv (.tmp 3), none, []⟩,
  ⟨some 24, .call I.slices_Grow_int_int [.const (.slice none 0 0), .tmp 23], none, []⟩,
  ⟨some 6, .mv (.tmp 24), none, []⟩]
def F.slices_Concat_int_int.r10 : List DOp := [
  ⟨some 25, .mv (.tmp 0), none, []⟩,
  ⟨some 26, .len (.tmp 25), none, []⟩,
  ⟨some 27, .mv (.const (.int .i64 0)), none, []⟩]
def F.slices_Concat_int_int.r11 : List DOp := [
  ⟨some 28, .bin .lss (.tmp 27) (.tmp 26), none, []⟩]
def F.slices_Concat_int_int.r12 : List DOp := [
  ⟨some 29, .idxs 1 (.tmp 25) (.tmp 27), none, []⟩,
  ⟨some 30, .load 1 false (.tmp 29), none, []⟩,
  ⟨some 8, .mv (.tmp 30), none, []⟩]
def F.slices_Concat_int_int.r13 : List DOp := [
  ⟨some 31, .mv (.tmp 6), none, []⟩,
  ⟨some 32, .mv (.tmp 8), none, []⟩,
  ⟨some 33, .append 1 8 (.tmp 31) (.tmp 32), none, []⟩,
  ⟨some 6, .mv (.tmp 33), none, []⟩]
def F.slices_Concat_int_int.r14 : List DOp := [
  ⟨some 34, .bin .add (.tmp 27) (.const (.int .i64 1)), none, []⟩,
  ⟨some 27, .mv (.tmp 34), none, []⟩]
def F.slices_Concat_int_int.L1 : ACode := .seq (.region F.slices_Concat_int_int.r11) (.seq (.cond (.tmp 28) (.skip) (.exit 2)) (.seq (.block 3 (.seq (.region F.slices_Concat_int_int.r12) (.region F.slices_Concat_int_int.r13))) (.region F.slices_Concat_int_int.r14)))
def F.slices_Concat_int_int.r15 : List DOp := [
  ⟨some 35, .mv (.tmp 6), none, []⟩,
  ⟨some 2, .mv (.tmp 35), none, []⟩]
def F.slices_Concat_int_int.c : ACode := .seq (.region F.slices_Concat_int_int.r0) (.seq (.region F.slices_Concat_int_int.r1) (.seq (.seq (.region F.slices_Concat_int_int.r2) (.block 0 (.loop F.slices_Concat_int_int.L0))) (.seq (.region F.slices_Concat_int_int.r9) (.seq (.seq (.region F.slices_Concat_int_int.r10) (.block 2 (.loop F.slices_Concat_int_int.L1))) (.seq (.region F.slices_Concat_int_int.r15) (.ret))))))
def F.slices_Concat_int_int : AFunc := ⟨F.slices_Concat_int_int.c, [.tmp 2]⟩
/-! slices.Compare[[]int,int] -/
def F.slices_Compare_int_int.r0 : List DOp := [
  ⟨some 4, .mv (.const (.int .i64 0)), none, []⟩]
def F.slices_Compare_int_int.r1 : List DOp := [
  ⟨some 9, .mv (.tmp 0), none, []⟩,
  ⟨some 10, .len (.tmp 9), none, []⟩,
  ⟨some 11, .mv (.const (.int .i64 0)), none, []⟩]
def F.slices_Compare_int_int.r2 : List DOp := [
  ⟨some 12, .bin .lss (.tmp 11) (.tmp 10), none, []⟩]
def F.slices_Compare_int_int.r3 : List DOp := [
  ⟨some 13, .mv (.tmp 11), none, []⟩,
  ⟨some 14, .idxs 1 (.tmp 9) (.tmp 11), none, []⟩,
  ⟨some 15, .load 1 false (.tmp 14), none, []⟩,
  ⟨some 5, .mv (.tmp 13), none, []⟩,
  ⟨some 6, .mv (.tmp 15), none, []⟩]
def F.slices_Compare_int_int.r4 : List DOp := [
  ⟨some 16, .mv (.tmp 5), none, []⟩,
  ⟨some 17, .mv (.tmp 1), none, []⟩,
  ⟨some 18, .len (.tmp 17), none, []⟩,
  ⟨some 19, .bin .geq (.tmp 16) (.tmp 18), none, []⟩]
def F.slices_Compare_int_int.r5 : List DOp := [
  ⟨some 4, .mv (.const (.int .i64 1)), none, []⟩]
def F.slices_Compare_int_int.r6 : List DOp := [
  ⟨some 20, .mv (.tmp 1), none, []⟩,
  ⟨some 21, .mv (.tmp 5), none, []⟩,
  ⟨some 22, .idxs 1 (.tmp 20) (.tmp 21), none, []⟩,
  ⟨some 23, .load 1 false (.tmp 22), none, []⟩,
  ⟨some 7, .mv (.tmp 23), none, []⟩]
def F.slices_Compare_int_int.r7 : List DOp := [
  ⟨some 24, .mv (.tmp 6), none, []⟩,
  ⟨some 25, .mv (.tmp 7), none, []⟩,
  ⟨some 26, .call I.cmp_Compare_int [.tmp 24, .tmp 25], none, []⟩,
  ⟨some 8, .mv (.tmp 26), none, []⟩]
def F.slices_Compare_int_int.r8 : List DOp := [
  ⟨some 27, .mv (.tmp 8), none, []⟩,
  ⟨some 28, .bin .neq (.tmp 27) (.const (.int .i64 0)), none, []⟩]
def F.slices_Compare_int_int.r9 : List DOp := [
  ⟨some 29, .mv (.tmp 8), none, []⟩,
  ⟨some 4, .mv (.tmp 29), none, []⟩]
def F.slices_Compare_int_int.r10 : List DOp := [
  ⟨some 30, .bin .add (.tmp 11) (.const (.int .i64 1)), none, []⟩,
  ⟨some 11, .mv (.tmp 30), none, []⟩]
def F.slices_Compare_int_int.L0 : ACode := .seq (.region F.slices_Compare_int_int.r2) (.seq (.cond (.tmp 12) (.skip) (.exit 0)) (.seq (.block 1 (.seq (.region F.slices_Compare_int_int.r3) (.seq (.seq (.region F.slices_Compare_int_int.r4) (.cond (.tmp 19) (.seq (.region F.slices_Compare_int_int.r5) (.ret)) (.skip))) (.seq (.region F.slices_Compare_int_int.r6) (.seq (.region F.slices_Compare_int_int.r7) (.seq (.region F.slices_Compare_int_int.r8) (.cond (.tmp 28) (.seq (.region F.slices_Compare_int_int.r9) (.ret)) (.skip)))))))) (.region F.slices_Compare_int_int.r10)))
def F.slices_Compare_int_int.r11 : List DOp := [
  ⟨some 31, .mv (.tmp 0), none, []⟩,
  ⟨some 32, .len (.tmp 31), none, []⟩,
  ⟨some 33, .mv (.tmp 1), none, []⟩,
  ⟨some 34, .len (.tmp 33), none, []⟩,
  ⟨some 35, .bin .lss (.tmp 32) (.tmp 34), none, []⟩]
def F.slices_Compare_int_int.r12 : List DOp := [
  ⟨some 4, .mv (.const (.int .i64 (-1))), none, []⟩]
def F.slices_Compare_int_int.r13 : List DOp := [
  ⟨some 4, .mv (.const (.int .i64 0)), none, []⟩]
def F.slices_Compare_int_int.c : ACode := .seq (.region F.slices_Compare_int_int.r0) (.seq (.seq (.region F.slices_Compare_int_int.r1) (.block 0 (.loop F.slices_Compare_int_int.L0))) (.seq (.seq (.region F.slices_Compare_int_int.r11) (.cond (.tmp 35) (.seq (.region F.slices_Compare_int_int.r12) (.ret)) (.skip))) (.seq (.region F.slices_Compare_int_int.r13) (.ret))))
def F.slices_Compare_int_int : AFunc := ⟨F.slices_Compare_int_int.c, [.tmp 4]⟩
/-! slices.Clone[[]int,int] -/
def F.slices_Clone_int_int.r0 : List DOp := [
  ⟨some 2, .mv (.const (.slice none 0 0)), none, []⟩]
def F.slices_Clone_int_int.r1 : List DOp := [
  ⟨some 3, .mv (.tmp 0), none, []⟩,
  ⟨some 4, .eq false .slice (.tmp 3) (.const (.slice none 0 0)), none, []⟩]
def F.slices_Clone_int_int.r2 : List DOp := [
  ⟨some 2, .mv (.const (.slice none 0 0)), none, []⟩]
def F.slices_Clone_int_int.r3 : List DOp := [
  ⟨some 5, .bslice 1 0 [] [], none, []⟩,
  ⟨some 6, .mv (.tmp 0), none, []⟩,
  ⟨some 7, .append 1 8 (.tmp 5) (.tmp 6), none, []⟩,
  ⟨some 2, .mv (.tmp 7), none, []⟩]
def F.slices_Clone_int_int.c : ACode := .seq (.region F.slices_Clone_int_int.r0) (.seq (.seq (.region F.slices_Clone_int_int.r1) (.cond (.tmp 4) (.seq (.region F.slices_Clone_int_int.r2) (.ret)) (.skip))) (.seq (.region F.slices_Clone_int_int.r3) (.ret)))
def F.slices_Clone_int_int : AFunc := ⟨F.slices_Clone_int_int.c, [.tmp 2]⟩
/-! slices.Sort[[]int,int] -/
def F.slices_Sort_int_int.r0 : List DOp := [
  ⟨some 3, .mv (.tmp 0), none, []⟩,
  ⟨some 4, .len (.tmp 3), none, []⟩,
  ⟨some 2, .mv (.tmp 4), none, []⟩]
def F.slices_Sort_int_int.r1 : List DOp := [
  ⟨some 5, .mv (.tmp 0), none, []⟩,
  ⟨some 6, .mv (.tmp 2), none, []⟩,
  ⟨some 7, .mv (.tmp 2), none, []⟩,
  ⟨some 8, .conv .u64 (.tmp 7), none, []⟩,
  ⟨some 9, .call I.math_bits_Len [.tmp 8], none, []⟩,
  ⟨some 10, .call I.slices_pdqsortOrdered_int [.tmp 5, .const (.int .i64 0), .tmp 6, .tmp 9], none, []⟩]
def F.slices_Sort_int_int.c : ACode := .seq (.region F.slices_Sort_int_int.r0) (.region F.slices_Sort_int_int.r1)
def F.slices_Sort_int_int : AFunc := ⟨F.slices_Sort_int_int.c, []⟩
/-! slices.Grow[[]bool,bool] -/
def F.slices_Grow_bool_bool.r0 : List DOp := [
  ⟨some 4, .mv (.const (.slice none 0 0)), none, []⟩]
def F.slices_Grow_bool_bool.r1 : List DOp := [
  ⟨some 5, .mv (.tmp 1), none, []⟩,
  ⟨some 6, .bin .lss (.tmp 5) (.const (.int .i64 0)), none, []⟩]
def F.slices_Grow_bool_bool.r2 : List DOp := [
  ⟨some 7, .iface 9 (.const (.string ({ data := #[99, 97, 110, 110, 111, 116, 32, 98, 101, 32, 110, 101, 103, 97, 116, 105, 118, 101] }))), none, []⟩,
  ⟨none, .bad, none, []⟩]
def F.slices_Grow_bool_bool.r3 : List DOp := [
  ⟨some 8, .mv (.tmp 1), none, []⟩,
  ⟨some 9, .mv (.tmp 0), none, []⟩,
  ⟨some 10, .capn (.tmp 9), none, []⟩,
  ⟨some 11, .mv (.tmp 0), none, []⟩,
  ⟨some 12, .len (.tmp 11), none, []⟩,
  ⟨some 13, .bin .sub (.tmp 10) (.tmp 12), none, []⟩,
  ⟨some 14, .bin .sub (.tmp 8) (.tmp 13), none, []⟩,
  ⟨some 1, .mv (.tmp 14), none, []⟩]
def F.slices_Grow_bool_bool.r4 : List DOp := [
  ⟨some 15, .mv (.tmp 1), none, []⟩,
  ⟨some 16, .bin .gtr (.tmp 15) (.const (.int .i64 0)), none, []⟩]
def F.slices_Grow_bool_bool.r5 : List DOp := [
  ⟨some 17, .mv (.tmp 0), none, []⟩,
  ⟨some 18, .mv (.tmp 0), none, []⟩,
  ⟨some 19, .capn (.tmp 18), none, []⟩,
  ⟨some 20, .slice 1 (.tmp 17) none (some (.tmp 19)), none, []⟩,
  ⟨some 21, .mv (.tmp 1), none, []⟩,
  ⟨some 22, .appz 1 1 [.bool false] (.tmp 20) (.tmp 21), none, []⟩,
  ⟨some 23, .mv (.tmp 0), none, []⟩,
  ⟨some 24, .len (.tmp 23), none, []⟩,
  ⟨some 25, .slice 1 (.tmp 22) none (some (.tmp 24)), none, []⟩,
  ⟨some 0, .mv (.tmp 25), none, []⟩]
def F.slices_Grow_bool_bool.r6 : List DOp := [
  ⟨some 26, .mv (.tmp 0), none, []⟩,
  ⟨some 4, .mv (.tmp 26), none, []⟩]
def F.slices_Grow_bool_bool.c : ACode := .seq (.region F.slices_Grow_bool_bool.r0) (.seq (.seq (.region F.slices_Grow_bool_bool.r1) (.cond (.tmp 6) (.region F.slices_Grow_bool_bool.r2) (.skip))) (.seq (.seq (.region F.slices_Grow_bool_bool.r3) (.seq (.region F.slices_Grow_bool_bool.r4) (.cond (.tmp 16) (.region F.slices_Grow_bool_bool.r5) (.skip)))) (.seq (.region F.slices_Grow_bool_bool.r6) (.ret))))
def F.slices_Grow_bool_bool : AFunc := ⟨F.slices_Grow_bool_bool.c, [.tmp 4]⟩
/-! slices.Clone[[]bool,bool] -/
def F.slices_Clone_bool_bool.r0 : List DOp := [
  ⟨some 2, .mv (.const (.slice none 0 0)), none, []⟩]
def F.slices_Clone_bool_bool.r1 : List DOp := [
  ⟨some 3, .mv (.tmp 0), none, []⟩,
  ⟨some 4, .eq false .slice (.tmp 3) (.const (.slice none 0 0)), none, []⟩]
def F.slices_Clone_bool_bool.r2 : List DOp := [
  ⟨some 2, .mv (.const (.slice none 0 0)), none, []⟩]
def F.slices_Clone_bool_bool.r3 : List DOp := [
  ⟨some 5, .bslice 1 0 [] [], none, []⟩,
  ⟨some 6, .mv (.tmp 0), none, []⟩,
  ⟨some 7, .append 1 1 (.tmp 5) (.tmp 6), none, []⟩,
  ⟨some 2, .mv (.tmp 7), none, []⟩]
def F.slices_Clone_bool_bool.c : ACode := .seq (.region F.slices_Clone_bool_bool.r0) (.seq (.seq (.region F.slices_Clone_bool_bool.r1) (.cond (.tmp 4) (.seq (.region F.slices_Clone_bool_bool.r2) (.ret)) (.skip))) (.seq (.region F.slices_Clone_bool_bool.r3) (.ret)))
def F.slices_Clone_bool_bool : AFunc := ⟨F.slices_Clone_bool_bool.c, [.tmp 2]⟩
/-! slices.Index[[]int,int] -/
def F.slices_Index_int_int.r0 : List DOp := [
  ⟨some 4, .mv (.const (.int .i64 0)), none, []⟩]
def F.slices_Index_int_int.r1 : List DOp := [
  ⟨some 6, .mv (.tmp 0), none, []⟩,
  ⟨some 7, .len (.tmp 6), none, []⟩,
  ⟨some 8, .mv (.const (.int .i64 0)), none, []⟩]
def F.slices_Index_int_int.r2 : List DOp := [
  ⟨some 9, .bin .lss (.tmp 8) (.tmp 7), none, []⟩]
def F.slices_Index_int_int.r3 : List DOp := [
  ⟨some 10, .mv (.tmp 8), none, []⟩,
  ⟨some 5, .mv (.tmp 10), none, []⟩]
def F.slices_Index_int_int.r4 : List DOp := [
  ⟨some 11, .mv (.tmp 1), none, []⟩,
  ⟨some 12, .mv (.tmp 0), none, []⟩,
  ⟨some 13, .mv (.tmp 5), none, []⟩,
  ⟨some 14, .idxs 1 (.tmp 12) (.tmp 13), none, []⟩,
  ⟨some 15, .load 1 false (.tmp 14), none, []⟩,
  ⟨some 16, .bin .eql (.tmp 11) (.tmp 15), none, []⟩]
def F.slices_Index_int_int.r5 : List DOp := [
  ⟨some 17, .mv (.tmp 5), none, []⟩,
  ⟨some 4, .mv (.tmp 17), none, []⟩]
def F.slices_Index_int_int.r6 : List DOp := [
  ⟨some 18, .bin .add (.tmp 8) (.const (.int .i64 1)), none, []⟩,
  ⟨some 8, .mv (.tmp 18), none, []⟩]
def F.slices_Index_int_int.L0 : ACode := .seq (.region F.slices_Index_int_int.r2) (.seq (.cond (.tmp 9) (.skip) (.exit 0)) (.seq (.block 1 (.seq (.region F.slices_Index_int_int.r3) (.seq (.region F.slices_Index_int_int.r4) (.cond (.tmp 16) (.seq (.region F.slices_Index_int_int.r5) (.ret)) (.skip))))) (.region F.slices_Index_int_int.r6)))
def F.slices_Index_int_int.r7 : List DOp := [
  ⟨some 4, .mv (.const (.int .i64 (-1))), none, []⟩]
def F.slices_Index_int_int.c : ACode := .seq (.region F.slices_Index_int_int.r0) (.seq (.seq (.region F.slices_Index_int_int.r1) (.block 0 (.loop F.slices_Index_int_int.L0))) (.seq (.region F.slices_Index_int_int.r7) (.ret)))
def F.slices_Index_int_int : AFunc := ⟨F.slices_Index_int_int.c, [.tmp 4]⟩
/-! slices.Grow[[]int,int] -/
def F.slices_Grow_int_int.r0 : List DOp := [
  ⟨some 4, .mv (.const (.slice none 0 0)), none, []⟩]
def F.slices_Grow_int_int.r1 : List DOp := [
  ⟨some 5, .mv (.tmp 1), none, []⟩,
  ⟨some 6, .bin .lss (.tmp 5) (.const (.int .i64 0)), none, []⟩]
def F.slices_Grow_int_int.r2 : List DOp := [
  ⟨some 7, .iface 9 (.const (.string ({ data := #[99, 97, 110, 110, 111, 116, 32, 98, 101, 32, 110, 101, 103, 97, 116, 105, 118, 101] }))), none, []⟩,
  ⟨none, .bad, none, []⟩]
def F.slices_Grow_int_int.r3 : List DOp := [
  ⟨some 8, .mv (.tmp 1), none, []⟩,
  ⟨some 9, .mv (.tmp 0), none, []⟩,
  ⟨some 10, .capn (.tmp 9), none, []⟩,
  ⟨some 11, .mv (.tmp 0), none, []⟩,
  ⟨some 12, .len (.tmp 11), none, []⟩,
  ⟨some 13, .bin .sub (.tmp 10) (.tmp 12), none, []⟩,
  ⟨some 14, .bin .sub (.tmp 8) (.tmp 13), none, []⟩,
  ⟨some 1, .mv (.tmp 14), none, []⟩]
def F.slices_Grow_int_int.r4 : List DOp := [
  ⟨some 15, .mv (.tmp 1), none, []⟩,
  ⟨some 16, .bin .gtr (.tmp 15) (.const (.int .i64 0)), none, []⟩]
def F.slices_Grow_int_int.r5 : List DOp := [
  ⟨some 17, .mv (.tmp 0), none, []⟩,
  ⟨some 18, .mv (.tmp 0), none, []⟩,
  ⟨some 19, .capn (.tmp 18), none, []⟩,
  ⟨some 20, .slice 1 (.tmp 17) none (some (.tmp 19)), none, []⟩,
  ⟨some 21, .mv (.tmp 1), none, []⟩,
  ⟨some 22, .appz 1 8 [.int .i64 0] (.tmp 20) (.tmp 21), none, []⟩,
  ⟨some 23, .mv (.tmp 0), none, []⟩,
  ⟨some 24, .len (.tmp 23), none, []⟩,
  ⟨some 25, .slice 1 (.tmp 22) none (some (.tmp 24)), none, []⟩,
  ⟨some 0, .mv (.tmp 25), none, []⟩]
def F.slices_Grow_int_int.r6 : List DOp := [
  ⟨some 26, .mv (.tmp 0), none, []⟩,
  ⟨some 4, .mv (.tmp 26), none, []⟩]
def F.slices_Grow_int_int.c : ACode := .seq (.region F.slices_Grow_int_int.r0) (.seq (.seq (.region F.slices_Grow_int_int.r1) (.cond (.tmp 6) (.region F.slices_Grow_int_int.r2) (.skip))) (.seq (.seq (.region F.slices_Grow_int_int.r3) (.seq (.region F.slices_Grow_int_int.r4) (.cond (.tmp 16) (.region F.slices_Grow_int_int.r5) (.skip)))) (.seq (.region F.slices_Grow_int_int.r6) (.ret))))
def F.slices_Grow_int_int : AFunc := ⟨F.slices_Grow_int_int.c, [.tmp 4]⟩
/-! slices.pdqsortOrdered[int] -/
def F.slices_pdqsortOrdered_int.r0 : List DOp := [
  ⟨some 8, .mv (.const (.bool true)), none, []⟩]
def F.slices_pdqsortOrdered_int.r1 : List DOp := [
  ⟨some 9, .mv (.const (.bool true)), none, []⟩]
def F.slices_pdqsortOrdered_int.r2 : List DOp := [
  ⟨some 19, .mv (.tmp 2), none, []⟩,
  ⟨some 20, .mv (.tmp 1), none, []⟩,
  ⟨some 21, .bin .sub (.tmp 19) (.tmp 20), none, []⟩,
  ⟨some 10, .mv (.tmp 21), none, []⟩]
def F.slices_pdqsortOrdered_int.r3 : List DOp := [
  ⟨some 22, .mv (.tmp 10), none, []⟩,
  ⟨some 23, .bin .leq (.tmp 22) (.const (.int .i64 12)), none, []⟩]
def F.slices_pdqsortOrdered_int.r4 : List DOp := [
  ⟨some 24, .mv (.tmp 0), none, []⟩,
  ⟨some 25, .mv (.tmp 1), none, []⟩,
  ⟨some 26, .mv (.tmp 2), none, []⟩,
  ⟨some 27, .call I.slices_insertionSortOrdered_int [.tmp 24, .tmp 25, .tmp 26], none, []⟩]
def F.slices_pdqsortOrdered_int.r5 : List DOp := [
  ⟨some 28, .mv (.tmp 3), none, []⟩,
  ⟨some 29, .bin .eql (.tmp 28) (.const (.int .i64 0)), none, []⟩]
def F.slices_pdqsortOrdered_int.r6 : List DOp := [
  ⟨some 30, .mv (.tmp 0), none, []⟩,
  ⟨some 31, .mv (.tmp 1), none, []⟩,
  ⟨some 32, .mv (.tmp 2), none, []⟩,
  ⟨some 33, .call I.slices_heapSortOrdered_int [.tmp 30, .tmp 31, .tmp 32], none, []⟩]
def F.slices_pdqsortOrdered_int.r7 : List DOp := [
  ⟨some 34, .mv (.tmp 8), none, []⟩,
  ⟨some 35, .un .not (.tmp 34), none, []⟩]
def F.slices_pdqsortOrdered_int.r8 : List DOp := [
  ⟨some 36, .mv (.tmp 0), none, []⟩,
  ⟨some 37, .mv (.tmp 1), none, []⟩,
  ⟨some 38, .mv (.tmp 2), none, []⟩,
  ⟨some 39, .call I.slices_breakPatternsOrdered_int [.tmp 36, .tmp 37, .tmp 38], none, []⟩]
def F.slices_pdqsortOrdered_int.r9 : List DOp := [
  ⟨some 40, .mv (.tmp 3), none, []⟩,
  ⟨some 41, .bin .sub (.tmp 40) (.const (.int .i64 1)), none, []⟩,
  ⟨some 3, .mv (.tmp 41), none, []⟩]
def F.slices_pdqsortOrdered_int.r10 : List DOp := [
  ⟨some 43, .mv (.tmp 0), none, []⟩,
  ⟨some 44, .mv (.tmp 1), none, []⟩,
  ⟨some 45, .mv (.tmp 2), none, []⟩,
  ⟨some 46, .call I.slices_choosePivotOrdered_int [.tmp 43, .tmp 44, .tmp 45], none, []⟩,
  ⟨some 42, .mv (.tmp 46), none, []⟩,
  ⟨some 47, .extract (.tmp 42) 0, none, []⟩,
  ⟨some 48, .extract (.tmp 42) 1, none, []⟩,
  ⟨some 11, .mv (.tmp 47), none, []⟩,
  ⟨some 12, .mv (.tmp 48), none, []⟩]
def F.slices_pdqsortOrdered_int.r11 : List DOp := [
  ⟨some 49, .mv (.tmp 12), none, []⟩,
  ⟨some 50, .bin .eql (.tmp 49) (.const (.int .i64 2)), none, []⟩]
def F.slices_pdqsortOrdered_int.r12 : List DOp := [
  ⟨some 51, .mv (.tmp 0), none, []⟩,
  ⟨some 52, .mv (.tmp 1), none, []⟩,
  ⟨some 53, .mv (.tmp 2), none, []⟩,
  ⟨some 54, .call I.slices_reverseRangeOrdered_int [.tmp 51, .tmp 52, .tmp 53], none, []⟩]
def F.slices_pdqsortOrdered_int.r13 : List DOp := [
  ⟨some 55, .mv (.tmp 2), none, []⟩,
  ⟨some 56, .bin .sub (.tmp 55) (.const (.int .i64 1)), none, []⟩,
  ⟨some 57, .mv (.tmp 11), none, []⟩,
  ⟨some 58, .mv (.tmp 1), none, []⟩,
  ⟨some 59, .bin .sub (.tmp 57) (.tmp 58), none, []⟩,
  ⟨some 60, .bin .sub (.tmp 56) (.tmp 59), none, []⟩,
  ⟨some 11, .mv (.tmp 60), none, []⟩]
def F.slices_pdqsortOrdered_int.r14 : List DOp := [
  ⟨some 12, .mv (.const (.int .i64 1)), none, []⟩]
def F.slices_pdqsortOrdered_int.r15 : List DOp := [
  ⟨some 61, .mv (.tmp 8), none, []⟩,
  ⟨some 62, .mv (.tmp 61), none, []⟩,
  ⟨some 63, .mv (.tmp 9), (some (62, true)), []⟩,
  ⟨some 64, .pick (.tmp 62) (.tmp 63) (.const (.bool false)), none, []⟩,
  ⟨some 65, .mv (.tmp 64), none, []⟩,
  ⟨some 66, .mv (.tmp 12), (some (65, true)), []⟩,
  ⟨some 67, .bin .eql (.tmp 66) (.const (.int .i64 1)), (some (65, true)), []⟩,
  ⟨some 68, .pick (.tmp 65) (.tmp 67) (.const (.bool false)), none, []⟩]
def F.slices_pdqsortOrdered_int.r16 : List DOp := [
  ⟨some 69, .mv (.tmp 0), none, []⟩,
  ⟨some 70, .mv (.tmp 1), none, []⟩,
  ⟨some 71, .mv (.tmp 2), none, []⟩,
  ⟨some 72, .call I.slices_partialInsertionSortOrdered_int [.tmp 69, .tmp 70, .tmp 71], none, []⟩]
def F.slices_pdqsortOrdered_int.r17 : List DOp := [
  ⟨some 73, .mv (.tmp 1), none, []⟩,
  ⟨some 74, .bin .gtr (.tmp 73) (.const (.int .i64 0)), none, []⟩,
  ⟨some 75, .mv (.tmp 74), none, []⟩,
  ⟨some 76, .mv (.tmp 0), (some (75, true)), []⟩,
  ⟨some 77, .mv (.tmp 1), (some (75, true)), []⟩,
  ⟨some 78, .bin .sub (.tmp 77) (.const (.int .i64 1)), (some (75, true)), []⟩,
  ⟨some 79, .idxs 1 (.tmp 76) (.tmp 78), (some (75, true)), []⟩,
  ⟨some 80, .load 1 false (.tmp 79), (some (75, true)), []⟩,
  ⟨some 81, .mv (.tmp 0), (some (75, true)), []⟩,
  ⟨some 82, .mv (.tmp 11), (some (75, true)), []⟩,
  ⟨some 83, .idxs 1 (.tmp 81) (.tmp 82), (some (75, true)), []⟩,
  ⟨some 84, .load 1 false (.tmp 83), (some (75, true)), []⟩,
  ⟨some 85, .call I.cmp_Less_int [.tmp 80, .tmp 84], (some (75, true)), []⟩,
  ⟨some 86, .un .not (.tmp 85), (some (75, true)), []⟩,
  ⟨some 87, .pick (.tmp 75) (.tmp 86) (.const (.bool false)), none, []⟩]
def F.slices_pdqsortOrdered_int.r18 : List DOp := [
  ⟨some 88, .mv (.tmp 0), none, []⟩,
  ⟨some 89, .mv (.tmp 1), none, []⟩,
  ⟨some 90, .mv (.tmp 2), none, []⟩,
  ⟨some 91, .mv (.tmp 11), none, []⟩,
  ⟨some 92, .call I.slices_partitionEqualOrdered_int [.tmp 88, .tmp 89, .tmp 90, .tmp 91], none, []⟩,
  ⟨some 13, .mv (.tmp 92), none, []⟩]
def F.slices_pdqsortOrdered_int.r19 : List DOp := [
  ⟨some 93, .mv (.tmp 13), none, []⟩,
  ⟨some 1, .mv (.tmp 93), none, []⟩]
def F.slices_pdqsortOrdered_int.r20 : List DOp := [
  ⟨some 95, .mv (.tmp 0), none, []⟩,
  ⟨some 96, .mv (.tmp 1), none, []⟩,
  ⟨some 97, .mv (.tmp 2), none, []⟩,
  ⟨some 98, .mv (.tmp 11), none, []⟩,
  ⟨some 99, .call I.slices_partitionOrdered_int [.tmp 95, .tmp 96, .tmp 97, .tmp 98], none, []⟩,
  ⟨some 94, .mv (.tmp 99), none, []⟩,
  ⟨some 100, .extract (.tmp 94) 0, none, []⟩,
  ⟨some 101, .extract (.tmp 94) 1, none, []⟩,
  ⟨some 14, .mv (.tmp 100), none, []⟩,
  ⟨some 15, .mv (.tmp 101), none, []⟩]
def F.slices_pdqsortOrdered_int.r21 : List DOp := [
  ⟨some 102, .mv (.tmp 15), none, []⟩,
  ⟨some 9, .mv (.tmp 102), none, []⟩]
def F.slices_pdqsortOrdered_int.r22 : List DOp := [
  ⟨some 103, .mv (.tmp 14), none, []⟩,
  ⟨some 104, .mv (.tmp 1), none, []⟩,
  ⟨some 105, .bin .sub (.tmp 103) (.tmp 104), none, []⟩,
  ⟨some 106, .mv (.tmp 2), none, []⟩,
  ⟨some 107, .mv (.tmp 14), none, []⟩,
  ⟨some 108, .bin .sub (.tmp 106) (.tmp 107), none, []⟩,
  ⟨some 16, .mv (.tmp 105), none, []⟩,
  ⟨some 17, .mv (.tmp 108), none, []⟩]
def F.slices_pdqsortOrdered_int.r23 : List DOp := [
  ⟨some 109, .mv (.tmp 10), none, []⟩,
  ⟨some 110, .bin .quo (.tmp 109) (.const (.int .i64 8)), none, []⟩,
  ⟨some 18, .mv (.tmp 110), none, []⟩]
def F.slices_pdqsortOrdered_int.r24 : List DOp := [
  ⟨some 111, .mv (.tmp 16), none, []⟩,
  ⟨some 112, .mv (.tmp 17), none, []⟩,
  ⟨some 113, .bin .lss (.tmp 111) (.tmp 112), none, []⟩]
def F.slices_pdqsortOrdered_int.r25 : List DOp := [
  ⟨some 114, .mv (.tmp 16), none, []⟩,
  ⟨some 115, .mv (.tmp 18), none, []⟩,
  ⟨some 116, .bin .geq (.tmp 114) (.tmp 115), none, []⟩,
  ⟨some 8, .mv (.tmp 116), none, []⟩]
def F.slices_pdqsortOrdered_int.r26 : List DOp := [
  ⟨some 117, .mv (.tmp 0), none, []⟩,
  ⟨some 118, .mv (.tmp 1), none, []⟩,
  ⟨some 119, .mv (.tmp 14), none, []⟩,
  ⟨some 120, .mv (.tmp 3), none, []⟩,
  ⟨some 121, .call I.slices_pdqsortOrdered_int [.tmp 117, .tmp 118, .tmp 119, .tmp 120], none, []⟩]
def F.slices_pdqsortOrdered_int.r27 : List DOp := [
  ⟨some 122, .mv (.tmp 14), none, []⟩,
  ⟨some 123, .bin .add (.tmp 122) (.const (.int .i64 1)), none, []⟩,
  ⟨some 1, .mv (.tmp 123), none, []⟩]
def F.slices_pdqsortOrdered_int.r28 : List DOp := [
  ⟨some 124, .mv (.tmp 17), none, []⟩,
  ⟨some 125, .mv (.tmp 18), none, []⟩,
  ⟨some 126, .bin .geq (.tmp 124) (.tmp 125), none, []⟩,
  ⟨some 8, .mv (.tmp 126), none, []⟩]
def F.slices_pdqsortOrdered_int.r29 : List DOp := [
  ⟨some 127, .mv (.tmp 0), none, []⟩,
  ⟨some 128, .mv (.tmp 14), none, []⟩,
  ⟨some 129, .bin .add (.tmp 128) (.const (.int .i64 1)), none, []⟩,
  ⟨some 130, .mv (.tmp 2), none, []⟩,
  ⟨some 131, .mv (.tmp 3), none, []⟩,
  ⟨some 132, .call I.slices_pdqsortOrdered_int [.tmp 127, .tmp 129, .tmp 130, .tmp 131], none, []⟩]
def F.slices_pdqsortOrdered_int.r30 : List DOp := [
  ⟨some 133, .mv (.tmp 14), none, []⟩,
  ⟨some 2, .mv (.tmp 133), none, []⟩]
def F.slices_pdqsortOrdered_int.L0 : ACode := .block 1 (.seq (.region F.slices_pdqsortOrdered_int.r2) (.seq (.seq (.region F.slices_pdqsortOrdered_int.r3) (.cond (.tmp 23) (.seq (.region F.slices_pdqsortOrdered_int.r4) (.ret)) (.skip))) (.seq (.seq (.region F.slices_pdqsortOrdered_int.r5) (.cond (.tmp 29) (.seq (.region F.slices_pdqsortOrdered_int.r6) (.ret)) (.skip))) (.seq (.seq (.region F.slices_pdqsortOrdered_int.r7) (.cond (.tmp 35) (.seq (.region F.slices_pdqsortOrdered_int.r8) (.region F.slices_pdqsortOrdered_int.r9)) (.skip))) (.seq (.region F.slices_pdqsortOrdered_int.r10) (.seq (.seq (.region F.slices_pdqsortOrdered_int.r11) (.cond (.tmp 50) (.seq (.region F.slices_pdqsortOrdered_int.r12) (.seq (.region F.slices_pdqsortOrdered_int.r13) (.region F.slices_pdqsortOrdered_int.r14))) (.skip))) (.seq (.seq (.region F.slices_pdqsortOrdered_int.r15) (.cond (.tmp 68) (.seq (.region F.slices_pdqsortOrdered_int.r16) (.cond (.tmp 72) (.ret) (.skip))) (.skip))) (.seq (.seq (.draw F.slices_pdqsortOrdered_int.r17 []) (.cond (.tmp 87) (.seq (.region F.slices_pdqsortOrdered_int.r18) (.seq (.region F.slices_pdqsortOrdered_int.r19) (.exit 1))) (.skip))) (.seq (.region F.slices_pdqsortOrdered_int.r20) (.seq (.region F.slices_pdqsortOrdered_int.r21) (.seq (.region F.slices_pdqsortOrdered_int.r22) (.seq (.region F.slices_pdqsortOrdered_int.r23) (.seq (.region F.slices_pdqsortOrdered_int.r24) (.cond (.tmp 113) (.seq (.region F.slices_pdqsortOrdered_int.r25) (.seq (.region F.slices_pdqsortOrdered_int.r26) (.region F.slices_pdqsortOrdered_int.r27))) (.seq (.region F.slices_pdqsortOrdered_int.r28) (.seq (.region F.slices_pdqsortOrdered_int.r29) (.region F.slices_pdqsortOrdered_int.r30)))))))))))))))))
def F.slices_pdqsortOrdered_int.c : ACode := .seq (.region F.slices_pdqsortOrdered_int.r0) (.seq (.region F.slices_pdqsortOrdered_int.r1) (.block 0 (.loop F.slices_pdqsortOrdered_int.L0)))
def F.slices_pdqsortOrdered_int : AFunc := ⟨F.slices_pdqsortOrdered_int.c, []⟩
/-! slices.insertionSortOrdered[int] -/
def F.slices_insertionSortOrdered_int.r0 : List DOp := [
  ⟨some 8, .mv (.tmp 1), none, []⟩,
  ⟨some 9, .bin .add (.tmp 8) (.const (.int .i64 1)), none, []⟩,
  ⟨some 6, .mv (.tmp 9), none, []⟩]
def F.slices_insertionSortOrdered_int.r1 : List DOp := [
  ⟨some 10, .mv (.tmp 6), none, []⟩,
  ⟨some 11, .mv (.tmp 2), none, []⟩,
  ⟨some 12, .bin .lss (.tmp 10) (.tmp 11), none, []⟩]
def F.slices_insertionSortOrdered_int.r3 : List DOp := [
  ⟨some 15, .mv (.tmp 6), none, []⟩,
  ⟨some 7, .mv (.tmp 15), none, []⟩]
def F.slices_insertionSortOrdered_int.r4 : List DOp := [
  ⟨some 16, .mv (.tmp 7), none, []⟩,
  ⟨some 17, .mv (.tmp 1), none, []⟩,
  ⟨some 18, .bin .gtr (.tmp 16) (.tmp 17), none, []⟩,
  ⟨some 19, .mv (.tmp 18), none, []⟩,
  ⟨some 20, .mv (.tmp 0), (some (19, true)), []⟩,
  ⟨some 21, .mv (.tmp 7), (some (19, true)), []⟩,
  ⟨some 22, .idxs 1 (.tmp 20) (.tmp 21), (some (19, true)), []⟩,
  ⟨some 23, .load 1 false (.tmp 22), (some (19, true)), []⟩,
  ⟨some 24, .mv (.tmp 0), (some (19, true)), []⟩,
  ⟨some 25, .mv (.tmp 7), (some (19, true)), []⟩,
  ⟨some 26, .bin .sub (.tmp 25) (.const (.int .i64 1)), (some (19, true)), []⟩,
  ⟨some 27, .idxs 1 (.tmp 24) (.tmp 26), (some (19, true)), []⟩,
  ⟨some 28, .load 1 false (.tmp 27), (some (19, true)), []⟩,
  ⟨some 29, .call I.cmp_Less_int [.tmp 23, .tmp 28], (some (19, true)), []⟩,
  ⟨some 30, .pick (.tmp 19) (.tmp 29) (.const (.bool false)), none, []⟩]
def F.slices_insertionSortOrdered_int.r6 : List DOp := [
  ⟨some 33, .mv (.tmp 0), none, []⟩,
  ⟨some 34, .mv (.tmp 7), none, []⟩,
  ⟨some 35, .mv (.tmp 0), none, []⟩,
  ⟨some 36, .mv (.tmp 7), none, []⟩,
  ⟨some 37, .bin .sub (.tmp 36) (.const (.int .i64 1)), none, []⟩,
  ⟨some 38, .mv (.tmp 0), none, []⟩,
  ⟨some 39, .mv (.tmp 7), none, []⟩,
  ⟨some 40, .bin .sub (.tmp 39) (.const (.int .i64 1)), none, []⟩,
  ⟨some 41, .idxs 1 (.tmp 38) (.tmp 40), none, []⟩,
  ⟨some 42, .load 1 false (.tmp 41), none, []⟩,
  ⟨some 43, .mv (.tmp 0), none, []⟩,
  ⟨some 44, .mv (.tmp 7), none, []⟩,
  ⟨some 45, .idxs 1 (.tmp 43) (.tmp 44), none, []⟩,
  ⟨some 46, .load 1 false (.tmp 45), none, []⟩,
  ⟨some 47, .idxs 1 (.tmp 33) (.tmp 34), none, []⟩,
  ⟨none, .store 1 (.tmp 47) (.tmp 42), none, []⟩,
  ⟨some 48, .idxs 1 (.tmp 35) (.tmp 37), none, []⟩,
  ⟨none, .store 1 (.tmp 48) (.tmp 46), none, []⟩]
def F.slices_insertionSortOrdered_int.r5 : List DOp := [
  ⟨some 31, .mv (.tmp 7), none, []⟩,
  ⟨some 32, .bin .sub (.tmp 31) (.const (.int .i64 1)), none, []⟩,
  ⟨some 7, .mv (.tmp 32), none, []⟩]
def F.slices_insertionSortOrdered_int.L1 : ACode := .seq (.seq (.draw F.slices_insertionSortOrdered_int.r4 []) (.cond (.tmp 30) (.skip) (.exit 2))) (.seq (.block 3 (.draw F.slices_insertionSortOrdered_int.r6 [])) (.region F.slices_insertionSortOrdered_int.r5))
def F.slices_insertionSortOrdered_int.r2 : List DOp := [
  ⟨some 13, .mv (.tmp 6), none, []⟩,
  ⟨some 14, .bin .add (.tmp 13) (.const (.int .i64 1)), none, []⟩,
  ⟨some 6, .mv (.tmp 14), none, []⟩]
def F.slices_insertionSortOrdered_int.L0 : ACode := .seq (.seq (.region F.slices_insertionSortOrdered_int.r1) (.cond (.tmp 12) (.skip) (.exit 0))) (.seq (.block 1 (.seq (.region F.slices_insertionSortOrdered_int.r3) (.block 2 (.loop F.slices_insertionSortOrdered_int.L1)))) (.region F.slices_insertionSortOrdered_int.r2))
def F.slices_insertionSortOrdered_int.c : ACode := .seq (.region F.slices_insertionSortOrdered_int.r0) (.block 0 (.loop F.slices_insertionSortOrdered_int.L0))
def F.slices_insertionSortOrdered_int : AFunc := ⟨F.slices_insertionSortOrdered_int.c, []⟩
/-! slices.heapSortOrdered[int] -/
def F.slices_heapSortOrdered_int.r0 : List DOp := [
  ⟨some 11, .mv (.tmp 1), none, []⟩,
  ⟨some 6, .mv (.tmp 11), none, []⟩]
def F.slices_heapSortOrdered_int.r1 : List DOp := [
  ⟨some 7, .mv (.const (.int .i64 0)), none, []⟩]
def F.slices_heapSortOrdered_int.r2 : List DOp := [
  ⟨some 12, .mv (.tmp 2), none, []⟩,
  ⟨some 13, .mv (.tmp 1), none, []⟩,
  ⟨some 14, .bin .sub (.tmp 12) (.tmp 13), none, []⟩,
  ⟨some 8, .mv (.tmp 14), none, []⟩]
def F.slices_heapSortOrdered_int.r3 : List DOp := [
  ⟨some 15, .mv (.tmp 8), none, []⟩,
  ⟨some 16, .bin .sub (.tmp 15) (.const (.int .i64 1)), none, []⟩,
  ⟨some 17, .bin .quo (.tmp 16) (.const (.int .i64 2)), none, []⟩,
  ⟨some 9, .mv (.tmp 17), none, []⟩]
def F.slices_heapSortOrdered_int.r4 : List DOp := [
  ⟨some 18, .mv (.tmp 9), none, []⟩,
  ⟨some 19, .bin .geq (.tmp 18) (.const (.int .i64 0)), none, []⟩]
def F.slices_heapSortOrdered_int.r6 : List DOp := [
  ⟨some 22, .mv (.tmp 0), none, []⟩,
  ⟨some 23, .mv (.tmp 9), none, []⟩,
  ⟨some 24, .mv (.tmp 8), none, []⟩,
  ⟨some 25, .mv (.tmp 6), none, []⟩,
  ⟨some 26, .call I.slices_siftDownOrdered_int [.tmp 22, .tmp 23, .tmp 24, .tmp 25], none, []⟩]
def F.slices_heapSortOrdered_int.r5 : List DOp := [
  ⟨some 20, .mv (.tmp 9), none, []⟩,
  ⟨some 21, .bin .sub (.tmp 20) (.const (.int .i64 1)), none, []⟩,
  ⟨some 9, .mv (.tmp 21), none, []⟩]
def F.slices_heapSortOrdered_int.L0 : ACode := .seq (.seq (.region F.slices_heapSortOrdered_int.r4) (.cond (.tmp 19) (.skip) (.exit 0))) (.seq (.block 1 (.region F.slices_heapSortOrdered_int.r6)) (.region F.slices_heapSortOrdered_int.r5))
def F.slices_heapSortOrdered_int.r7 : List DOp := [
  ⟨some 27, .mv (.tmp 8), none, []⟩,
  ⟨some 28, .bin .sub (.tmp 27) (.const (.int .i64 1)), none, []⟩,
  ⟨some 10, .mv (.tmp 28), none, []⟩]
def F.slices_heapSortOrdered_int.r8 : List DOp := [
  ⟨some 29, .mv (.tmp 10), none, []⟩,
  ⟨some 30, .bin .geq (.tmp 29) (.const (.int .i64 0)), none, []⟩]
def F.slices_heapSortOrdered_int.r10 : List DOp := [
  ⟨some 33, .mv (.tmp 0), none, []⟩,
  ⟨some 34, .mv (.tmp 6), none, []⟩,
  ⟨some 35, .mv (.tmp 0), none, []⟩,
  ⟨some 36, .mv (.tmp 6), none, []⟩,
  ⟨some 37, .mv (.tmp 10), none, []⟩,
  ⟨some 38, .bin .add (.tmp 36) (.tmp 37), none, []⟩,
  ⟨some 39, .mv (.tmp 0), none, []⟩,
  ⟨some 40, .mv (.tmp 6), none, []⟩,
  ⟨some 41, .mv (.tmp 10), none, []⟩,
  ⟨some 42, .bin .add (.tmp 40) (.tmp 41), none, []⟩,
  ⟨some 43, .idxs 1 (.tmp 39) (.tmp 42), none, []⟩,
  ⟨some 44, .load 1 false (.tmp 43), none, []⟩,
  ⟨some 45, .mv (.tmp 0), none, []⟩,
  ⟨some 46, .mv (.tmp 6), none, []⟩,
  ⟨some 47, .idxs 1 (.tmp 45) (.tmp 46), none, []⟩,
  ⟨some 48, .load 1 false (.tmp 47), none, []⟩,
  ⟨some 49, .idxs 1 (.tmp 33) (.tmp 34), none, []⟩,
  ⟨none, .store 1 (.tmp 49) (.tmp 44), none, []⟩,
  ⟨some 50, .idxs 1 (.tmp 35) (.tmp 38), none, []⟩,
  ⟨none, .store 1 (.tmp 50) (.tmp 48), none, []⟩]
def F.slices_heapSortOrdered_int.r11 : List DOp := [
  ⟨some 51, .mv (.tmp 0), none, []⟩,
  ⟨some 52, .mv (.tmp 7), none, []⟩,
  ⟨some 53, .mv (.tmp 10), none, []⟩,
  ⟨some 54, .mv (.tmp 6), none, []⟩,
  ⟨some 55, .call I.slices_siftDownOrdered_int [.tmp 51, .tmp 52, .tmp 53, .tmp 54], none, []⟩]
def F.slices_heapSortOrdered_int.r9 : List DOp := [
  ⟨some 31, .mv (.tmp 10), none, []⟩,
  ⟨some 32, .bin .sub (.tmp 31) (.const (.int .i64 1)), none, []⟩,
  ⟨some 10, .mv (.tmp 32), none, []⟩]
def F.slices_heapSortOrdered_int.L1 : ACode := .seq (.seq (.region F.slices_heapSortOrdered_int.r8) (.cond (.tmp 30) (.skip) (.exit 2))) (.seq (.block 3 (.seq (.draw F.slices_heapSortOrdered_int.r10 []) (.region F.slices_heapSortOrdered_int.r11))) (.region F.slices_heapSortOrdered_int.r9))
def F.slices_heapSortOrdered_int.c : ACode := .seq (.region F.slices_heapSortOrdered_int.r0) (.seq (.region F.slices_heapSortOrdered_int.r1) (.seq (.region F.slices_heapSortOrdered_int.r2) (.seq (.seq (.region F.slices_heapSortOrdered_int.r3) (.block 0 (.loop F.slices_heapSortOrdered_int.L0))) (.seq (.region F.slices_heapSortOrdered_int.r7) (.block 2 (.loop F.slices_heapSortOrdered_int.L1))))))
def F.slices_heapSortOrdered_int : AFunc := ⟨F.slices_heapSortOrdered_int.c, []⟩
/-! slices.breakPatternsOrdered[int] -/
def F.slices_breakPatternsOrdered_int.r0 : List DOp := [
  ⟨some 11, .mv (.tmp 2), none, []⟩,
  ⟨some 12, .mv (.tmp 1), none, []⟩,
  ⟨some 13, .bin .sub (.tmp 11) (.tmp 12), none, []⟩,
  ⟨some 6, .mv (.tmp 13), none, []⟩]
def F.slices_breakPatternsOrdered_int.r1 : List DOp := [
  ⟨some 14, .mv (.tmp 6), none, []⟩,
  ⟨some 15, .bin .geq (.tmp 14) (.const (.int .i64 8)), none, []⟩]
def F.slices_breakPatternsOrdered_int.r2 : List DOp := [
  ⟨some 16, .mv (.tmp 6), none, []⟩,
  ⟨some 17, .conv .u64 (.tmp 16), none, []⟩,
  ⟨some 7, .alloc [.int .u64 0], none, []⟩,
  ⟨none, .store 1 (.tmp 7) (.tmp 17), none, []⟩]
def F.slices_breakPatternsOrdered_int.r3 : List DOp := [
  ⟨some 18, .mv (.tmp 6), none, []⟩,
  ⟨some 19, .call I.slices_nextPowerOfTwo [.tmp 18], none, []⟩,
  ⟨some 8, .mv (.tmp 19), none, []⟩]
def F.slices_breakPatternsOrdered_int.r4 : List DOp := [
  ⟨some 20, .mv (.tmp 1), none, []⟩,
  ⟨some 21, .mv (.tmp 6), none, []⟩,
  ⟨some 22, .bin .quo (.tmp 21) (.const (.int .i64 4)), none, []⟩,
  ⟨some 23, .bin .mul (.tmp 22) (.const (.int .i64 2)), none, []⟩,
  ⟨some 24, .bin .add (.tmp 20) (.tmp 23), none, []⟩,
  ⟨some 25, .bin .sub (.tmp 24) (.const (.int .i64 1)), none, []⟩,
  ⟨some 9, .mv (.tmp 25), none, []⟩]
def F.slices_breakPatternsOrdered_int.r5 : List DOp := [
  ⟨some 26, .mv (.tmp 9), none, []⟩,
  ⟨some 27, .mv (.tmp 1), none, []⟩,
  ⟨some 28, .mv (.tmp 6), none, []⟩,
  ⟨some 29, .bin .quo (.tmp 28) (.const (.int .i64 4)), none, []⟩,
  ⟨some 30, .bin .mul (.tmp 29) (.const (.int .i64 2)), none, []⟩,
  ⟨some 31, .bin .add (.tmp 27) (.tmp 30), none, []⟩,
  ⟨some 32, .bin .add (.tmp 31) (.const (.int .i64 1)), none, []⟩,
  ⟨some 33, .bin .leq (.tmp 26) (.tmp 32), none, []⟩]
def F.slices_breakPatternsOrdered_int.r7 : List DOp := [
  ⟨some 36, .call I.slices_xorshift_Next [.tmp 7], none, []⟩,
  ⟨some 37, .mv (.tmp 8), none, []⟩,
  ⟨some 38, .bin .sub (.tmp 37) (.const (.int .u64 1)), none, []⟩,
  ⟨some 39, .bin .and (.tmp 36) (.tmp 38), none, []⟩,
  ⟨some 40, .conv .i64 (.tmp 39), none, []⟩,
  ⟨some 10, .mv (.tmp 40), none, []⟩]
def F.slices_breakPatternsOrdered_int.r8 : List DOp := [
  ⟨some 41, .mv (.tmp 10), none, []⟩,
  ⟨some 42, .mv (.tmp 6), none, []⟩,
  ⟨some 43, .bin .geq (.tmp 41) (.tmp 42), none, []⟩]
def F.slices_breakPatternsOrdered_int.r9 : List DOp := [
  ⟨some 44, .mv (.tmp 10), none, []⟩,
  ⟨some 45, .mv (.tmp 6), none, []⟩,
  ⟨some 46, .bin .sub (.tmp 44) (.tmp 45), none, []⟩,
  ⟨some 10, .mv (.tmp 46), none, []⟩]
def F.slices_breakPatternsOrdered_int.r10 : List DOp := [
  ⟨some 47, .mv (.tmp 0), none, []⟩,
  ⟨some 48, .mv (.tmp 9), none, []⟩,
  ⟨some 49, .mv (.tmp 0), none, []⟩,
  ⟨some 50, .mv (.tmp 1), none, []⟩,
  ⟨some 51, .mv (.tmp 10), none, []⟩,
  ⟨some 52, .bin .add (.tmp 50) (.tmp 51), none, []⟩,
  ⟨some 53, .mv (.tmp 0), none, []⟩,
  ⟨some 54, .mv (.tmp 1), none, []⟩,
  ⟨some 55, .mv (.tmp 10), none, []⟩,
  ⟨some 56, .bin .add (.tmp 54) (.tmp 55), none, []⟩,
  ⟨some 57, .idxs 1 (.tmp 53) (.tmp 56), none, []⟩,
  ⟨some 58, .load 1 false (.tmp 57), none, []⟩,
  ⟨some 59, .mv (.tmp 0), none, []⟩,
  ⟨some 60, .mv (.tmp 9), none, []⟩,
  ⟨some 61, .idxs 1 (.tmp 59) (.tmp 60), none, []⟩,
  ⟨some 62, .load 1 false (.tmp 61), none, []⟩,
  ⟨some 63, .idxs 1 (.tmp 47) (.tmp 48), none, []⟩,
  ⟨none, .store 1 (.tmp 63) (.tmp 58), none, []⟩,
  ⟨some 64, .idxs 1 (.tmp 49) (.tmp 52), none, []⟩,
  ⟨none, .store 1 (.tmp 64) (.tmp 62), none, []⟩]
def F.slices_breakPatternsOrdered_int.r6 : List DOp := [
  ⟨some 34, .mv (.tmp 9), none, []⟩,
  ⟨some 35, .bin .add (.tmp 34) (.const (.int .i64 1)), none, []⟩,
  ⟨some 9, .mv (.tmp 35), none, []⟩]
def F.slices_breakPatternsOrdered_int.L0 : ACode := .seq (.seq (.region F.slices_breakPatternsOrdered_int.r5) (.cond (.tmp 33) (.skip) (.exit 0))) (.seq (.block 1 (.seq (.region F.slices_breakPatternsOrdered_int.r7) (.seq (.seq (.region F.slices_breakPatternsOrdered_int.r8) (.cond (.tmp 43) (.region F.slices_breakPatternsOrdered_int.r9) (.skip))) (.draw F.slices_breakPatternsOrdered_int.r10 [])))) (.region F.slices_breakPatternsOrdered_int.r6))
def F.slices_breakPatternsOrdered_int.c : ACode := .seq (.region F.slices_breakPatternsOrdered_int.r0) (.seq (.region F.slices_breakPatternsOrdered_int.r1) (.cond (.tmp 15) (.seq (.region F.slices_breakPatternsOrdered_int.r2) (.seq (.region F.slices_breakPatternsOrdered_int.r3) (.seq (.region F.slices_breakPatternsOrdered_int.r4) (.block 0 (.loop F.slices_breakPatternsOrdered_int.L0))))) (.skip)))
def F.slices_breakPatternsOrdered_int : AFunc := ⟨F.slices_breakPatternsOrdered_int.c, []⟩
/-! slices.choosePivotOrdered[int] -/
def F.slices_choosePivotOrdered_int.r0 : List DOp := [
  ⟨some 6, .mv (.const (.int .i64 0)), none, []⟩,
  ⟨some 7, .mv (.const (.int .i64 0)), none, []⟩]
def F.slices_choosePivotOrdered_int.r1 : List DOp := [
  ⟨some 13, .mv (.tmp 2), none, []⟩,
  ⟨some 14, .mv (.tmp 1), none, []⟩,
  ⟨some 15, .bin .sub (.tmp 13) (.tmp 14), none, []⟩,
  ⟨some 8, .mv (.tmp 15), none, []⟩]
def F.slices_choosePivotOrdered_int.r2 : List DOp := [
  ⟨some 9, .alloc [.int .i64 0], none, []⟩]
def F.slices_choosePivotOrdered_int.r3 : List DOp := [
  ⟨some 16, .mv (.tmp 1), none, []⟩,
  ⟨some 17, .mv (.tmp 8), none, []⟩,
  ⟨some 18, .bin .quo (.tmp 17) (.const (.int .i64 4)), none, []⟩,
  ⟨some 19, .bin .mul (.tmp 18) (.const (.int .i64 1)), none, []⟩,
  ⟨some 20, .bin .add (.tmp 16) (.tmp 19), none, []⟩,
  ⟨some 10, .mv (.tmp 20), none, []⟩]
def F.slices_choosePivotOrdered_int.r4 : List DOp := [
  ⟨some 21, .mv (.tmp 1), none, []⟩,
  ⟨some 22, .mv (.tmp 8), none, []⟩,
  ⟨some 23, .bin .quo (.tmp 22) (.const (.int .i64 4)), none, []⟩,
  ⟨some 24, .bin .mul (.tmp 23) (.const (.int .i64 2)), none, []⟩,
  ⟨some 25, .bin .add (.tmp 21) (.tmp 24), none, []⟩,
  ⟨some 11, .mv (.tmp 25), none, []⟩]
def F.slices_choosePivotOrdered_int.r5 : List DOp := [
  ⟨some 26, .mv (.tmp 1), none, []⟩,
  ⟨some 27, .mv (.tmp 8), none, []⟩,
  ⟨some 28, .bin .quo (.tmp 27) (.const (.int .i64 4)), none, []⟩,
  ⟨some 29, .bin .mul (.tmp 28) (.const (.int .i64 3)), none, []⟩,
  ⟨some 30, .bin .add (.tmp 26) (.tmp 29), none, []⟩,
  ⟨some 12, .mv (.tmp 30), none, []⟩]
def F.slices_choosePivotOrdered_int.r6 : List DOp := [
  ⟨some 31, .mv (.tmp 8), none, []⟩,
  ⟨some 32, .bin .geq (.tmp 31) (.const (.int .i64 8)), none, []⟩]
def F.slices_choosePivotOrdered_int.r7 : List DOp := [
  ⟨some 33, .mv (.tmp 8), none, []⟩,
  ⟨some 34, .bin .geq (.tmp 33) (.const (.int .i64 50)), none, []⟩]
def F.slices_choosePivotOrdered_int.r8 : List DOp := [
  ⟨some 35, .mv (.tmp 0), none, []⟩,
  ⟨some 36, .mv (.tmp 10), none, []⟩,
  ⟨some 37, .call I.slices_medianAdjacentOrdered_int [.tmp 35, .tmp 36, .tmp 9], none, []⟩,
  ⟨some 10, .mv (.tmp 37), none, []⟩]
def F.slices_choosePivotOrdered_int.r9 : List DOp := [
  ⟨some 38, .mv (.tmp 0), none, []⟩,
  ⟨some 39, .mv (.tmp 11), none, []⟩,
  ⟨some 40, .call I.slices_medianAdjacentOrdered_int [.tmp 38, .tmp 39, .tmp 9], none, []⟩,
  ⟨some 11, .mv (.tmp 40), none, []⟩]
def F.slices_choosePivotOrdered_int.r10 : List DOp := [
  ⟨some 41, .mv (.tmp 0), none, []⟩,
  ⟨some 42, .mv (.tmp 12), none, []⟩,
  ⟨some 43, .call I.slices_medianAdjacentOrdered_int [.tmp 41, .tmp 42, .tmp 9], none, []⟩,
  ⟨some 12, .mv (.tmp 43), none, []⟩]
def F.slices_choosePivotOrdered_int.r11 : List DOp := [
  ⟨some 44, .mv (.tmp 0), none, []⟩,
  ⟨some 45, .mv (.tmp 10), none, []⟩,
  ⟨some 46, .mv (.tmp 11), none, []⟩,
  ⟨some 47, .mv (.tmp 12), none, []⟩,
  ⟨some 48, .call I.slices_medianOrdered_int [.tmp 44, .tmp 45, .tmp 46, .tmp 47, .tmp 9], none, []⟩,
  ⟨some 11, .mv (.tmp 48), none, []⟩]
def F.slices_choosePivotOrdered_int.r12 : List DOp := [
  ⟨some 49, .load 1 false (.tmp 9), none, []⟩]
def F.slices_choosePivotOrdered_int.r14 : List DOp := [
  ⟨some 52, .bin .eql (.tmp 49) (.const (.int .i64 0)), none, []⟩,
  ⟨some 51, .mv (.tmp 52), none, []⟩]
def F.slices_choosePivotOrdered_int.r15 : List DOp := [
  ⟨some 53, .mv (.tmp 11), none, []⟩,
  ⟨some 6, .mv (.tmp 53), none, []⟩,
  ⟨some 7, .mv (.const (.int .i64 1)), none, []⟩]
def F.slices_choosePivotOrdered_int.r16 : List DOp := [
  ⟨some 55, .bin .eql (.tmp 49) (.const (.int .i64 12)), none, []⟩,
  ⟨some 54, .mv (.tmp 55), none, []⟩]
def F.slices_choosePivotOrdered_int.r17 : List DOp := [
  ⟨some 56, .mv (.tmp 11), none, []⟩,
  ⟨some 6, .mv (.tmp 56), none, []⟩,
  ⟨some 7, .mv (.const (.int .i64 2)), none, []⟩]
def F.slices_choosePivotOrdered_int.r13 : List DOp := [
  ⟨some 50, .mv (.tmp 11), none, []⟩,
  ⟨some 6, .mv (.tmp 50), none, []⟩,
  ⟨some 7, .mv (.const (.int .i64 0)), none, []⟩]
def F.slices_choosePivotOrdered_int.c : ACode := .seq (.region F.slices_choosePivotOrdered_int.r0) (.seq (.region F.slices_choosePivotOrdered_int.r1) (.seq (.region F.slices_choosePivotOrdered_int.r2) (.seq (.region F.slices_choosePivotOrdered_int.r3) (.seq (.region F.slices_choosePivotOrdered_int.r4) (.seq (.region F.slices_choosePivotOrdered_int.r5) (.seq (.seq (.region F.slices_choosePivotOrdered_int.r6) (.cond (.tmp 32) (.seq (.seq (.region F.slices_choosePivotOrdered_int.r7) (.cond (.tmp 34) (.seq (.region F.slices_choosePivotOrdered_int.r8) (.seq (.region F.slices_choosePivotOrdered_int.r9) (.region F.slices_choosePivotOrdered_int.r10))) (.skip))) (.region F.slices_choosePivotOrdered_int.r11)) (.skip))) (.seq (.region F.slices_choosePivotOrdered_int.r12) (.block 0 (.seq (.region F.slices_choosePivotOrdered_int.r14) (.cond (.tmp 51) (.seq (.region F.slices_choosePivotOrdered_int.r15) (.ret)) (.seq (.region F.slices_choosePivotOrdered_int.r16) (.cond (.tmp 54) (.seq (.region F.slices_choosePivotOrdered_int.r17) (.ret)) (.seq (.region F.slices_choosePivotOrdered_int.r13) (.ret))))))))))))))
def F.slices_choosePivotOrdered_int : AFunc := ⟨F.slices_choosePivotOrdered_int.c, [.tmp 6, .tmp 7]⟩
/-! slices.reverseRangeOrdered[int] -/
def F.slices_reverseRangeOrdered_int.r0 : List DOp := [
  ⟨some 8, .mv (.tmp 1), none, []⟩,
  ⟨some 6, .mv (.tmp 8), none, []⟩]
def F.slices_reverseRangeOrdered_int.r1 : List DOp := [
  ⟨some 9, .mv (.tmp 2), none, []⟩,
  ⟨some 10, .bin .sub (.tmp 9) (.const (.int .i64 1)), none, []⟩,
  ⟨some 7, .mv (.tmp 10), none, []⟩]
def F.slices_reverseRangeOrdered_int.r2 : List DOp := [
  ⟨some 11, .mv (.tmp 6), none, []⟩,
  ⟨some 12, .mv (.tmp 7), none, []⟩,
  ⟨some 13, .bin .lss (.tmp 11) (.tmp 12), none, []⟩]
def F.slices_reverseRangeOrdered_int.r3 : List DOp := [
  ⟨some 14, .mv (.tmp 0), none, []⟩,
  ⟨some 15, .mv (.tmp 6), none, []⟩,
  ⟨some 16, .mv (.tmp 0), none, []⟩,
  ⟨some 17, .mv (.tmp 7), none, []⟩,
  ⟨some 18, .mv (.tmp 0), none, []⟩,
  ⟨some 19, .mv (.tmp 7), none, []⟩,
  ⟨some 20, .idxs 1 (.tmp 18) (.tmp 19), none, []⟩,
  ⟨some 21, .load 1 false (.tmp 20), none, []⟩,
  ⟨some 22, .mv (.tmp 0), none, []⟩,
  ⟨some 23, .mv (.tmp 6), none, []⟩,
  ⟨some 24, .idxs 1 (.tmp 22) (.tmp 23), none, []⟩,
  ⟨some 25, .load 1 false (.tmp 24), none, []⟩,
  ⟨some 26, .idxs 1 (.tmp 14) (.tmp 15), none, []⟩,
  ⟨none, .store 1 (.tmp 26) (.tmp 21), none, []⟩,
  ⟨some 27, .idxs 1 (.tmp 16) (.tmp 17), none, []⟩,
  ⟨none, .store 1 (.tmp 27) (.tmp 25), none, []⟩]
def F.slices_reverseRangeOrdered_int.r4 : List DOp := [
  ⟨some 28, .mv (.tmp 6), none, []⟩,
  ⟨some 29, .bin .add (.tmp 28) (.const (.int .i64 1)), none, []⟩,
  ⟨some 6, .mv (.tmp 29), none, []⟩]
def F.slices_reverseRangeOrdered_int.r5 : List DOp := [
  ⟨some 30, .mv (.tmp 7), none, []⟩,
  ⟨some 31, .bin .sub (.tmp 30) (.const (.int .i64 1)), none, []⟩,
  ⟨some 7, .mv (.tmp 31), none, []⟩]
def F.slices_reverseRangeOrdered_int.L0 : ACode := .seq (.seq (.region F.slices_reverseRangeOrdered_int.r2) (.cond (.tmp 13) (.skip) (.exit 0))) (.block 1 (.seq (.draw F.slices_reverseRangeOrdered_int.r3 []) (.seq (.region F.slices_reverseRangeOrdered_int.r4) (.region F.slices_reverseRangeOrdered_int.r5))))
def F.slices_reverseRangeOrdered_int.c : ACode := .seq (.region F.slices_reverseRangeOrdered_int.r0) (.seq (.region F.slices_reverseRangeOrdered_int.r1) (.block 0 (.loop F.slices_reverseRangeOrdered_int.L0)))
def F.slices_reverseRangeOrdered_int : AFunc := ⟨F.slices_reverseRangeOrdered_int.c, []⟩
/-! slices.partialInsertionSortOrdered[int] -/
def F.slices_partialInsertionSortOrdered_int.r0 : List DOp := [
  ⟨some 6, .mv (.const (.bool false)), none, []⟩]
def F.slices_partialInsertionSortOrdered_int.r1 : List DOp := [
  ⟨some 11, .mv (.tmp 1), none, []⟩,
  ⟨some 12, .bin .add (.tmp 11) (.const (.int .i64 1)), none, []⟩,
  ⟨some 7, .mv (.tmp 12), none, []⟩]
def F.slices_partialInsertionSortOrdered_int.r2 : List DOp := [
  ⟨some 8, .mv (.const (.int .i64 0)), none, []⟩]
def F.slices_partialInsertionSortOrdered_int.r3 : List DOp := [
  ⟨some 13, .mv (.tmp 8), none, []⟩,
  ⟨some 14, .bin .lss (.tmp 13) (.const (.int .i64 5)), none, []⟩]
def F.slices_partialInsertionSortOrdered_int.r5 : List DOp := [
  ⟨some 17, .mv (.tmp 7), none, []⟩,
  ⟨some 18, .mv (.tmp 2), none, []⟩,
  ⟨some 19, .bin .lss (.tmp 17) (.tmp 18), none, []⟩,
  ⟨some 20, .mv (.tmp 19), none, []⟩,
  ⟨some 21, .mv (.tmp 0), (some (20, true)), []⟩,
  ⟨some 22, .mv (.tmp 7), (some (20, true)), []⟩,
  ⟨some 23, .idxs 1 (.tmp 21) (.tmp 22), (some (20, true)), []⟩,
  ⟨some 24, .load 1 false (.tmp 23), (some (20, true)), []⟩,
  ⟨some 25, .mv (.tmp 0), (some (20, true)), []⟩,
  ⟨some 26, .mv (.tmp 7), (some (20, true)), []⟩,
  ⟨some 27, .bin .sub (.tmp 26) (.const (.int .i64 1)), (some (20, true)), []⟩,
  ⟨some 28, .idxs 1 (.tmp 25) (.tmp 27), (some (20, true)), []⟩,
  ⟨some 29, .load 1 false (.tmp 28), (some (20, true)), []⟩,
  ⟨some 30, .call I.cmp_Less_int [.tmp 24, .tmp 29], (some (20, true)), []⟩,
  ⟨some 31, .un .not (.tmp 30), (some (20, true)), []⟩,
  ⟨some 32, .pick (.tmp 20) (.tmp 31) (.const (.bool false)), none, []⟩]
def F.slices_partialInsertionSortOrdered_int.r6 : List DOp := [
  ⟨some 33, .mv (.tmp 7), none, []⟩,
  ⟨some 34, .bin .add (.tmp 33) (.const (.int .i64 1)), none, []⟩,
  ⟨some 7, .mv (.tmp 34), none, []⟩]
def F.slices_partialInsertionSortOrdered_int.L1 : ACode := .seq (.seq (.draw F.slices_partialInsertionSortOrdered_int.r5 []) (.cond (.tmp 32) (.skip) (.exit 2))) (.block 3 (.region F.slices_partialInsertionSortOrdered_int.r6))
def F.slices_partialInsertionSortOrdered_int.r7 : List DOp := [
  ⟨some 35, .mv (.tmp 7), none, []⟩,
  ⟨some 36, .mv (.tmp 2), none, []⟩,
  ⟨some 37, .bin .eql (.tmp 35) (.tmp 36), none, []⟩]
def F.slices_partialInsertionSortOrdered_int.r8 : List DOp := [
  ⟨some 6, .mv (.const (.bool true)), none, []⟩]
def F.slices_partialInsertionSortOrdered_int.r9 : List DOp := [
  ⟨some 38, .mv (.tmp 2), none, []⟩,
  ⟨some 39, .mv (.tmp 1), none, []⟩,
  ⟨some 40, .bin .sub (.tmp 38) (.tmp 39), none, []⟩,
  ⟨some 41, .bin .lss (.tmp 40) (.const (.int .i64 50)), none, []⟩]
def F.slices_partialInsertionSortOrdered_int.r10 : List DOp := [
  ⟨some 6, .mv (.const (.bool false)), none, []⟩]
def F.slices_partialInsertionSortOrdered_int.r11 : List DOp := [
  ⟨some 42, .mv (.tmp 0), none, []⟩,
  ⟨some 43, .mv (.tmp 7), none, []⟩,
  ⟨some 44, .mv (.tmp 0), none, []⟩,
  ⟨some 45, .mv (.tmp 7), none, []⟩,
  ⟨some 46, .bin .sub (.tmp 45) (.const (.int .i64 1)), none, []⟩,
  ⟨some 47, .mv (.tmp 0), none, []⟩,
  ⟨some 48, .mv (.tmp 7), none, []⟩,
  ⟨some 49, .bin .sub (.tmp 48) (.const (.int .i64 1)), none, []⟩,
  ⟨some 50, .idxs 1 (.tmp 47) (.tmp 49), none, []⟩,
  ⟨some 51, .load 1 false (.tmp 50), none, []⟩,
  ⟨some 52, .mv (.tmp 0), none, []⟩,
  ⟨some 53, .mv (.tmp 7), none, []⟩,
  ⟨some 54, .idxs 1 (.tmp 52) (.tmp 53), none, []⟩,
  ⟨some 55, .load 1 false (.tmp 54), none, []⟩,
  ⟨some 56, .idxs 1 (.tmp 42) (.tmp 43), none, []⟩,
  ⟨none, .store 1 (.tmp 56) (.tmp 51), none, []⟩,
  ⟨some 57, .idxs 1 (.tmp 44) (.tmp 46), none, []⟩,
  ⟨none, .store 1 (.tmp 57) (.tmp 55), none, []⟩]
def F.slices_partialInsertionSortOrdered_int.r12 : List DOp := [
  ⟨some 58, .mv (.tmp 7), none, []⟩,
  ⟨some 59, .mv (.tmp 1), none, []⟩,
  ⟨some 60, .bin .sub (.tmp 58) (.tmp 59), none, []⟩,
  ⟨some 61, .bin .geq (.tmp 60) (.const (.int .i64 2)), none, []⟩]
def F.slices_partialInsertionSortOrdered_int.r13 : List DOp := [
  ⟨some 62, .mv (.tmp 7), none, []⟩,
  ⟨some 63, .bin .sub (.tmp 62) (.const (.int .i64 1)), none, []⟩,
  ⟨some 9, .mv (.tmp 63), none, []⟩]
def F.slices_partialInsertionSortOrdered_int.r14 : List DOp := [
  ⟨some 64, .mv (.tmp 9), none, []⟩,
  ⟨some 65, .bin .geq (.tmp 64) (.const (.int .i64 1)), none, []⟩]
def F.slices_partialInsertionSortOrdered_int.r16 : List DOp := [
  ⟨some 68, .mv (.tmp 0), none, []⟩,
  ⟨some 69, .mv (.tmp 9), none, []⟩,
  ⟨some 70, .idxs 1 (.tmp 68) (.tmp 69), none, []⟩,
  ⟨some 71, .load 1 false (.tmp 70), none, []⟩,
  ⟨some 72, .mv (.tmp 0), none, []⟩,
  ⟨some 73, .mv (.tmp 9), none, []⟩,
  ⟨some 74, .bin .sub (.tmp 73) (.const (.int .i64 1)), none, []⟩,
  ⟨some 75, .idxs 1 (.tmp 72) (.tmp 74), none, []⟩,
  ⟨some 76, .load 1 false (.tmp 75), none, []⟩,
  ⟨some 77, .call I.cmp_Less_int [.tmp 71, .tmp 76], none, []⟩,
  ⟨some 78, .un .not (.tmp 77), none, []⟩]
def F.slices_partialInsertionSortOrdered_int.r17 : List DOp := [
  ⟨some 79, .mv (.tmp 0), none, []⟩,
  ⟨some 80, .mv (.tmp 9), none, []⟩,
  ⟨some 81, .mv (.tmp 0), none, []⟩,
  ⟨some 82, .mv (.tmp 9), none, []⟩,
  ⟨some 83, .bin .sub (.tmp 82) (.const (.int .i64 1)), none, []⟩,
  ⟨some 84, .mv (.tmp 0), none, []⟩,
  ⟨some 85, .mv (.tmp 9), none, []⟩,
  ⟨some 86, .bin .sub (.tmp 85) (.const (.int .i64 1)), none, []⟩,
  ⟨some 87, .idxs 1 (.tmp 84) (.tmp 86), none, []⟩,
  ⟨some 88, .load 1 false (.tmp 87), none, []⟩,
  ⟨some 89, .mv (.tmp 0), none, []⟩,
  ⟨some 90, .mv (.tmp 9), none, []⟩,
  ⟨some 91, .idxs 1 (.tmp 89) (.tmp 90), none, []⟩,
  ⟨some 92, .load 1 false (.tmp 91), none, []⟩,
  ⟨some 93, .idxs 1 (.tmp 79) (.tmp 80), none, []⟩,
  ⟨none, .store 1 (.tmp 93) (.tmp 88), none, []⟩,
  ⟨some 94, .idxs 1 (.tmp 81) (.tmp 83), none, []⟩,
  ⟨none, .store 1 (.tmp 94) (.tmp 92), none, []⟩]
def F.slices_partialInsertionSortOrdered_int.r15 : List DOp := [
  ⟨some 66, .mv (.tmp 9), none, []⟩,
  ⟨some 67, .bin .sub (.tmp 66) (.const (.int .i64 1)), none, []⟩,
  ⟨some 9, .mv (.tmp 67), none, []⟩]
def F.slices_partialInsertionSortOrdered_int.L2 : ACode := .seq (.seq (.region F.slices_partialInsertionSortOrdered_int.r14) (.cond (.tmp 65) (.skip) (.exit 4))) (.seq (.block 5 (.seq (.seq (.draw F.slices_partialInsertionSortOrdered_int.r16 []) (.cond (.tmp 78) (.exit 4) (.skip))) (.draw F.slices_partialInsertionSortOrdered_int.r17 []))) (.region F.slices_partialInsertionSortOrdered_int.r15))
def F.slices_partialInsertionSortOrdered_int.r18 : List DOp := [
  ⟨some 95, .mv (.tmp 2), none, []⟩,
  ⟨some 96, .mv (.tmp 7), none, []⟩,
  ⟨some 97, .bin .sub (.tmp 95) (.tmp 96), none, []⟩,
  ⟨some 98, .bin .geq (.tmp 97) (.const (.int .i64 2)), none, []⟩]
def F.slices_partialInsertionSortOrdered_int.r19 : List DOp := [
  ⟨some 99, .mv (.tmp 7), none, []⟩,
  ⟨some 100, .bin .add (.tmp 99) (.const (.int .i64 1)), none, []⟩,
  ⟨some 10, .mv (.tmp 100), none, []⟩]
def F.slices_partialInsertionSortOrdered_int.r20 : List DOp := [
  ⟨some 101, .mv (.tmp 10), none, []⟩,
  ⟨some 102, .mv (.tmp 2), none, []⟩,
  ⟨some 103, .bin .lss (.tmp 101) (.tmp 102), none, []⟩]
def F.slices_partialInsertionSortOrdered_int.r22 : List DOp := [
  ⟨some 106, .mv (.tmp 0), none, []⟩,
  ⟨some 107, .mv (.tmp 10), none, []⟩,
  ⟨some 108, .idxs 1 (.tmp 106) (.tmp 107), none, []⟩,
  ⟨some 109, .load 1 false (.tmp 108), none, []⟩,
  ⟨some 110, .mv (.tmp 0), none, []⟩,
  ⟨some 111, .mv (.tmp 10), none, []⟩,
  ⟨some 112, .bin .sub (.tmp 111) (.const (.int .i64 1)), none, []⟩,
  ⟨some 113, .idxs 1 (.tmp 110) (.tmp 112), none, []⟩,
  ⟨some 114, .load 1 false (.tmp 113), none, []⟩,
  ⟨some 115, .call I.cmp_Less_int [.tmp 109, .tmp 114], none, []⟩,
  ⟨some 116, .un .not (.tmp 115), none, []⟩]
def F.slices_partialInsertionSortOrdered_int.r23 : List DOp := [
  ⟨some 117, .mv (.tmp 0), none, []⟩,
  ⟨some 118, .mv (.tmp 10), none, []⟩,
  ⟨some 119, .mv (.tmp 0), none, []⟩,
  ⟨some 120, .mv (.tmp 10), none, []⟩,
  ⟨some 121, .bin .sub (.tmp 120) (.const (.int .i64 1)), none, []⟩,
  ⟨some 122, .mv (.tmp 0), none, []⟩,
  ⟨some 123, .mv (.tmp 10), none, []⟩,
  ⟨some 124, .bin .sub (.tmp 123) (.const (.int .i64 1)), none, []⟩,
  ⟨some 125, .idxs 1 (.tmp 122) (.tmp 124), none, []⟩,
  ⟨some 126, .load 1 false (.tmp 125), none, []⟩,
  ⟨some 127, .mv (.tmp 0), none, []⟩,
  ⟨some 128, .mv (.tmp 10), none, []⟩,
  ⟨some 129, .idxs 1 (.tmp 127) (.tmp 128), none, []⟩,
  ⟨some 130, .load 1 false (.tmp 129), none, []⟩,
  ⟨some 131, .idxs 1 (.tmp 117) (.tmp 118), none, []⟩,
  ⟨none, .store 1 (.tmp 131) (.tmp 126), none, []⟩,
  ⟨some 132, .idxs 1 (.tmp 119) (.tmp 121), none, []⟩,
  ⟨none, .store 1 (.tmp 132) (.tmp 130), none, []⟩]
def F.slices_partialInsertionSortOrdered_int.r21 : List DOp := [
  ⟨some 104, .mv (.tmp 10), none, []⟩,
  ⟨some 105, .bin .add (.tmp 104) (.const (.int .i64 1)), none, []⟩,
  ⟨some 10, .mv (.tmp 105), none, []⟩]
def F.slices_partialInsertionSortOrdered_int.L3 : ACode := .seq (.seq (.region F.slices_partialInsertionSortOrdered_int.r20) (.cond (.tmp 103) (.skip) (.exit 6))) (.seq (.block 7 (.seq (.seq (.draw F.slices_partialInsertionSortOrdered_int.r22 []) (.cond (.tmp 116) (.exit 6) (.skip))) (.draw F.slices_partialInsertionSortOrdered_int.r23 []))) (.region F.slices_partialInsertionSortOrdered_int.r21))
def F.slices_partialInsertionSortOrdered_int.r4 : List DOp := [
  ⟨some 15, .mv (.tmp 8), none, []⟩,
  ⟨some 16, .bin .add (.tmp 15) (.const (.int .i64 1)), none, []⟩,
  ⟨some 8, .mv (.tmp 16), none, []⟩]
def F.slices_partialInsertionSortOrdered_int.L0 : ACode := .seq (.seq (.region F.slices_partialInsertionSortOrdered_int.r3) (.cond (.tmp 14) (.skip) (.exit 0))) (.seq (.block 1 (.seq (.block 2 (.loop F.slices_partialInsertionSortOrdered_int.L1)) (.seq (.seq (.region F.slices_partialInsertionSortOrdered_int.r7) (.cond (.tmp 37) (.seq (.region F.slices_partialInsertionSortOrdered_int.r8) (.ret)) (.skip))) (.seq (.seq (.region F.slices_partialInsertionSortOrdered_int.r9) (.cond (.tmp 41) (.seq (.region F.slices_partialInsertionSortOrdered_int.r10) (.ret)) (.skip))) (.seq (.draw F.slices_partialInsertionSortOrdered_int.r11 []) (.seq (.seq (.region F.slices_partialInsertionSortOrdered_int.r12) (.cond (.tmp 61) (.seq (.region F.slices_partialInsertionSortOrdered_int.r13) (.block 4 (.loop F.slices_partialInsertionSortOrdered_int.L2))) (.skip))) (.seq (.region F.slices_partialInsertionSortOrdered_int.r18) (.cond (.tmp 98) (.seq (.region F.slices_partialInsertionSortOrdered_int.r19) (.block 6 (.loop F.slices_partialInsertionSortOrdered_int.L3))) (.skip))))))))) (.region F.slices_partialInsertionSortOrdered_int.r4))
def F.slices_partialInsertionSortOrdered_int.r24 : List DOp := [
  ⟨some 6, .mv (.const (.bool false)), none, []⟩]
def F.slices_partialInsertionSortOrdered_int.c : ACode := .seq (.region F.slices_partialInsertionSortOrdered_int.r0) (.seq (.region F.slices_partialInsertionSortOrdered_int.r1) (.seq (.seq (.region F.slices_partialInsertionSortOrdered_int.r2) (.block 0 (.loop F.slices_partialInsertionSortOrdered_int.L0))) (.seq (.region F.slices_partialInsertionSortOrdered_int.r24) (.ret))))
def F.slices_partialInsertionSortOrdered_int : AFunc := ⟨F.slices_partialInsertionSortOrdered_int.c, [.tmp 6]⟩
/-! slices.partitionEqualOrdered[int] -/
def F.slices_partitionEqualOrdered_int.r0 : List DOp := [
  ⟨some 8, .mv (.const (.int .i64 0)), none, []⟩]
def F.slices_partitionEqualOrdered_int.r1 : List DOp := [
  ⟨some 11, .mv (.tmp 0), none, []⟩,
  ⟨some 12, .mv (.tmp 1), none, []⟩,
  ⟨some 13, .mv (.tmp 0), none, []⟩,
  ⟨some 14, .mv (.tmp 3), none, []⟩,
  ⟨some 15, .mv (.tmp 0), none, []⟩,
  ⟨some 16, .mv (.tmp 3), none, []⟩,
  ⟨some 17, .idxs 1 (.tmp 15) (.tmp 16), none, []⟩,
  ⟨some 18, .load 1 false (.tmp 17), none, []⟩,
  ⟨some 19, .mv (.tmp 0), none, []⟩,
  ⟨some 20, .mv (.tmp 1), none, []⟩,
  ⟨some 21, .idxs 1 (.tmp 19) (.tmp 20), none, []⟩,
  ⟨some 22, .load 1 false (.tmp 21), none, []⟩,
  ⟨some 23, .idxs 1 (.tmp 11) (.tmp 12), none, []⟩,
  ⟨none, .store 1 (.tmp 23) (.tmp 18), none, []⟩,
  ⟨some 24, .idxs 1 (.tmp 13) (.tmp 14), none, []⟩,
  ⟨none, .store 1 (.tmp 24) (.tmp 22), none, []⟩]
def F.slices_partitionEqualOrdered_int.r2 : List DOp := [
  ⟨some 25, .mv (.tmp 1), none, []⟩,
  ⟨some 26, .bin .add (.tmp 25) (.const (.int .i64 1)), none, []⟩,
  ⟨some 27, .mv (.tmp 2), none, []⟩,
  ⟨some 28, .bin .sub (.tmp 27) (.const (.int .i64 1)), none, []⟩,
  ⟨some 9, .mv (.tmp 26), none, []⟩,
  ⟨some 10, .mv (.tmp 28), none, []⟩]
def F.slices_partitionEqualOrdered_int.r3 : List DOp := [
  ⟨some 29, .mv (.tmp 9), none, []⟩,
  ⟨some 30, .mv (.tmp 10), none, []⟩,
  ⟨some 31, .bin .leq (.tmp 29) (.tmp 30), none, []⟩,
  ⟨some 32, .mv (.tmp 31), none, []⟩,
  ⟨some 33, .mv (.tmp 0), (some (32, true)), []⟩,
  ⟨some 34, .mv (.tmp 1), (some (32, true)), []⟩,
  ⟨some 35, .idxs 1 (.tmp 33) (.tmp 34), (some (32, true)), []⟩,
  ⟨some 36, .load 1 false (.tmp 35), (some (32, true)), []⟩,
  ⟨some 37, .mv (.tmp 0), (some (32, true)), []⟩,
  ⟨some 38, .mv (.tmp 9), (some (32, true)), []⟩,
  ⟨some 39, .idxs 1 (.tmp 37) (.tmp 38), (some (32, true)), []⟩,
  ⟨some 40, .load 1 false (.tmp 39), (some (32, true)), []⟩,
  ⟨some 41, .call I.cmp_Less_int [.tmp 36, .tmp 40], (some (32, true)), []⟩,
  ⟨some 42, .un .not (.tmp 41), (some (32, true)), []⟩,
  ⟨some 43, .pick (.tmp 32) (.tmp 42) (.const (.bool false)), none, []⟩]
def F.slices_partitionEqualOrdered_int.r4 : List DOp := [
  ⟨some 44, .mv (.tmp 9), none, []⟩,
  ⟨some 45, .bin .add (.tmp 44) (.const (.int .i64 1)), none, []⟩,
  ⟨some 9, .mv (.tmp 45), none, []⟩]
def F.slices_partitionEqualOrdered_int.L1 : ACode := .seq (.seq (.draw F.slices_partitionEqualOrdered_int.r3 []) (.cond (.tmp 43) (.skip) (.exit 2))) (.block 3 (.region F.slices_partitionEqualOrdered_int.r4))
def F.slices_partitionEqualOrdered_int.r5 : List DOp := [
  ⟨some 46, .mv (.tmp 9), none, []⟩,
  ⟨some 47, .mv (.tmp 10), none, []⟩,
  ⟨some 48, .bin .leq (.tmp 46) (.tmp 47), none, []⟩,
  ⟨some 49, .mv (.tmp 48), none, []⟩,
  ⟨some 50, .mv (.tmp 0), (some (49, true)), []⟩,
  ⟨some 51, .mv (.tmp 1), (some (49, true)), []⟩,
  ⟨some 52, .idxs 1 (.tmp 50) (.tmp 51), (some (49, true)), []⟩,
  ⟨some 53, .load 1 false (.tmp 52), (some (49, true)), []⟩,
  ⟨some 54, .mv (.tmp 0), (some (49, true)), []⟩,
  ⟨some 55, .mv (.tmp 10), (some (49, true)), []⟩,
  ⟨some 56, .idxs 1 (.tmp 54) (.tmp 55), (some (49, true)), []⟩,
  ⟨some 57, .load 1 false (.tmp 56), (some (49, true)), []⟩,
  ⟨some 58, .call I.cmp_Less_int [.tmp 53, .tmp 57], (some (49, true)), []⟩,
  ⟨some 59, .pick (.tmp 49) (.tmp 58) (.const (.bool false)), none, []⟩]
def F.slices_partitionEqualOrdered_int.r6 : List DOp := [
  ⟨some 60, .mv (.tmp 10), none, []⟩,
  ⟨some 61, .bin .sub (.tmp 60) (.const (.int .i64 1)), none, []⟩,
  ⟨some 10, .mv (.tmp 61), none, []⟩]
def F.slices_partitionEqualOrdered_int.L2 : ACode := .seq (.seq (.draw F.slices_partitionEqualOrdered_int.r5 []) (.cond (.tmp 59) (.skip) (.exit 4))) (.block 5 (.region F.slices_partitionEqualOrdered_int.r6))
def F.slices_partitionEqualOrdered_int.r7 : List DOp := [
  ⟨some 62, .mv (.tmp 9), none, []⟩,
  ⟨some 63, .mv (.tmp 10), none, []⟩,
  ⟨some 64, .bin .gtr (.tmp 62) (.tmp 63), none, []⟩]
def F.slices_partitionEqualOrdered_int.r8 : List DOp := [
  ⟨some 65, .mv (.tmp 0), none, []⟩,
  ⟨some 66, .mv (.tmp 9), none, []⟩,
  ⟨some 67, .mv (.tmp 0), none, []⟩,
  ⟨some 68, .mv (.tmp 10), none, []⟩,
  ⟨some 69, .mv (.tmp 0), none, []⟩,
  ⟨some 70, .mv (.tmp 10), none, []⟩,
  ⟨some 71, .idxs 1 (.tmp 69) (.tmp 70), none, []⟩,
  ⟨some 72, .load 1 false (.tmp 71), none, []⟩,
  ⟨some 73, .mv (.tmp 0), none, []⟩,
  ⟨some 74, .mv (.tmp 9), none, []⟩,
  ⟨some 75, .idxs 1 (.tmp 73) (.tmp 74), none, []⟩,
  ⟨some 76, .load 1 false (.tmp 75), none, []⟩,
  ⟨some 77, .idxs 1 (.tmp 65) (.tmp 66), none, []⟩,
  ⟨none, .store 1 (.tmp 77) (.tmp 72), none, []⟩,
  ⟨some 78, .idxs 1 (.tmp 67) (.tmp 68), none, []⟩,
  ⟨none, .store 1 (.tmp 78) (.tmp 76), none, []⟩]
def F.slices_partitionEqualOrdered_int.r9 : List DOp := [
  ⟨some 79, .mv (.tmp 9), none, []⟩,
  ⟨some 80, .bin .add (.tmp 79) (.const (.int .i64 1)), none, []⟩,
  ⟨some 9, .mv (.tmp 80), none, []⟩]
def F.slices_partitionEqualOrdered_int.r10 : List DOp := [
  ⟨some 81, .mv (.tmp 10), none, []⟩,
  ⟨some 82, .bin .sub (.tmp 81) (.const (.int .i64 1)), none, []⟩,
  ⟨some 10, .mv (.tmp 82), none, []⟩]
def F.slices_partitionEqualOrdered_int.L0 : ACode := .block 1 (.seq (.block 2 (.loop F.slices_partitionEqualOrdered_int.L1)) (.seq (.block 4 (.loop F.slices_partitionEqualOrdered_int.L2)) (.seq (.seq (.region F.slices_partitionEqualOrdered_int.r7) (.cond (.tmp 64) (.exit 0) (.skip))) (.seq (.draw F.slices_partitionEqualOrdered_int.r8 []) (.seq (.region F.slices_partitionEqualOrdered_int.r9) (.region F.slices_partitionEqualOrdered_int.r10))))))
def F.slices_partitionEqualOrdered_int.r11 : List DOp := [
  ⟨some 83, .mv (.tmp 9), none, []⟩,
  ⟨some 8, .mv (.tmp 83), none, []⟩]
def F.slices_partitionEqualOrdered_int.c : ACode := .seq (.region F.slices_partitionEqualOrdered_int.r0) (.seq (.draw F.slices_partitionEqualOrdered_int.r1 []) (.seq (.region F.slices_partitionEqualOrdered_int.r2) (.seq (.block 0 (.loop F.slices_partitionEqualOrdered_int.L0)) (.seq (.region F.slices_partitionEqualOrdered_int.r11) (.ret)))))
def F.slices_partitionEqualOrdered_int : AFunc := ⟨F.slices_partitionEqualOrdered_int.c, [.tmp 8]⟩
/-! slices.partitionOrdered[int] -/
def F.slices_partitionOrdered_int.r0 : List DOp := [
  ⟨some 8, .mv (.const (.int .i64 0)), none, []⟩,
  ⟨some 9, .mv (.const (.bool false)), none, []⟩]
def F.slices_partitionOrdered_int.r1 : List DOp := [
  ⟨some 12, .mv (.tmp 0), none, []⟩,
  ⟨some 13, .mv (.tmp 1), none, []⟩,
  ⟨some 14, .mv (.tmp 0), none, []⟩,
  ⟨some 15, .mv (.tmp 3), none, []⟩,
  ⟨some 16, .mv (.tmp 0), none, []⟩,
  ⟨some 17, .mv (.tmp 3), none, []⟩,
  ⟨some 18, .idxs 1 (.tmp 16) (.tmp 17), none, []⟩,
  ⟨some 19, .load 1 false (.tmp 18), none, []⟩,
  ⟨some 20, .mv (.tmp 0), none, []⟩,
  ⟨some 21, .mv (.tmp 1), none, []⟩,
  ⟨some 22, .idxs 1 (.tmp 20) (.tmp 21), none, []⟩,
  ⟨some 23, .load 1 false (.tmp 22), none, []⟩,
  ⟨some 24, .idxs 1 (.tmp 12) (.tmp 13), none, []⟩,
  ⟨none, .store 1 (.tmp 24) (.tmp 19), none, []⟩,
  ⟨some 25, .idxs 1 (.tmp 14) (.tmp 15), none, []⟩,
  ⟨none, .store 1 (.tmp 25) (.tmp 23), none, []⟩]
def F.slices_partitionOrdered_int.r2 : List DOp := [
  ⟨some 26, .mv (.tmp 1), none, []⟩,
  ⟨some 27, .bin .add (.tmp 26) (.const (.int .i64 1)), none, []⟩,
  ⟨some 28, .mv (.tmp 2), none, []⟩,
  ⟨some 29, .bin .sub (.tmp 28) (.const (.int .i64 1)), none, []⟩,
  ⟨some 10, .mv (.tmp 27), none, []⟩,
  ⟨some 11, .mv (.tmp 29), none, []⟩]
def F.slices_partitionOrdered_int.r3 : List DOp := [
  ⟨some 30, .mv (.tmp 10), none, []⟩,
  ⟨some 31, .mv (.tmp 11), none, []⟩,
  ⟨some 32, .bin .leq (.tmp 30) (.tmp 31), none, []⟩,
  ⟨some 33, .mv (.tmp 32), none, []⟩,
  ⟨some 34, .mv (.tmp 0), (some (33, true)), []⟩,
  ⟨some 35, .mv (.tmp 10), (some (33, true)), []⟩,
  ⟨some 36, .idxs 1 (.tmp 34) (.tmp 35), (some (33, true)), []⟩,
  ⟨some 37, .load 1 false (.tmp 36), (some (33, true)), []⟩,
  ⟨some 38, .mv (.tmp 0), (some (33, true)), []⟩,
  ⟨some 39, .mv (.tmp 1), (some (33, true)), []⟩,
  ⟨some 40, .idxs 1 (.tmp 38) (.tmp 39), (some (33, true)), []⟩,
  ⟨some 41, .load 1 false (.tmp 40), (some (33, true)), []⟩,
  ⟨some 42, .call I.cmp_Less_int [.tmp 37, .tmp 41], (some (33, true)), []⟩,
  ⟨some 43, .pick (.tmp 33) (.tmp 42) (.const (.bool false)), none, []⟩]
def F.slices_partitionOrdered_int.r4 : List DOp := [
  ⟨some 44, .mv (.tmp 10), none, []⟩,
  ⟨some 45, .bin .add (.tmp 44) (.const (.int .i64 1)), none, []⟩,
  ⟨some 10, .mv (.tmp 45), none, []⟩]
def F.slices_partitionOrdered_int.L0 : ACode := .seq (.seq (.draw F.slices_partitionOrdered_int.r3 []) (.cond (.tmp 43) (.skip) (.exit 0))) (.block 1 (.region F.slices_partitionOrdered_int.r4))
def F.slices_partitionOrdered_int.r5 : List DOp := [
  ⟨some 46, .mv (.tmp 10), none, []⟩,
  ⟨some 47, .mv (.tmp 11), none, []⟩,
  ⟨some 48, .bin .leq (.tmp 46) (.tmp 47), none, []⟩,
  ⟨some 49, .mv (.tmp 48), none, []⟩,
  ⟨some 50, .mv (.tmp 0), (some (49, true)), []⟩,
  ⟨some 51, .mv (.tmp 11), (some (49, true)), []⟩,
  ⟨some 52, .idxs 1 (.tmp 50) (.tmp 51), (some (49, true)), []⟩,
  ⟨some 53, .load 1 false (.tmp 52), (some (49, true)), []⟩,
  ⟨some 54, .mv (.tmp 0), (some (49, true)), []⟩,
  ⟨some 55, .mv (.tmp 1), (some (49, true)), []⟩,
  ⟨some 56, .idxs 1 (.tmp 54) (.tmp 55), (some (49, true)), []⟩,
  ⟨some 57, .load 1 false (.tmp 56), (some (49, true)), []⟩,
  ⟨some 58, .call I.cmp_Less_int [.tmp 53, .tmp 57], (some (49, true)), []⟩,
  ⟨some 59, .un .not (.tmp 58), (some (49, true)), []⟩,
  ⟨some 60, .pick (.tmp 49) (.tmp 59) (.const (.bool false)), none, []⟩]
def F.slices_partitionOrdered_int.r6 : List DOp := [
  ⟨some 61, .mv (.tmp 11), none, []⟩,
  ⟨some 62, .bin .sub (.tmp 61) (.const (.int .i64 1)), none, []⟩,
  ⟨some 11, .mv (.tmp 62), none, []⟩]
def F.slices_partitionOrdered_int.L1 : ACode := .seq (.seq (.draw F.slices_partitionOrdered_int.r5 []) (.cond (.tmp 60) (.skip) (.exit 2))) (.block 3 (.region F.slices_partitionOrdered_int.r6))
def F.slices_partitionOrdered_int.r7 : List DOp := [
  ⟨some 63, .mv (.tmp 10), none, []⟩,
  ⟨some 64, .mv (.tmp 11), none, []⟩,
  ⟨some 65, .bin .gtr (.tmp 63) (.tmp 64), none, []⟩]
def F.slices_partitionOrdered_int.r8 : List DOp := [
  ⟨some 66, .mv (.tmp 0), none, []⟩,
  ⟨some 67, .mv (.tmp 11), none, []⟩,
  ⟨some 68, .mv (.tmp 0), none, []⟩,
  ⟨some 69, .mv (.tmp 1), none, []⟩,
  ⟨some 70, .mv (.tmp 0), none, []⟩,
  ⟨some 71, .mv (.tmp 1), none, []⟩,
  ⟨some 72, .idxs 1 (.tmp 70) (.tmp 71), none, []⟩,
  ⟨some 73, .load 1 false (.tmp 72), none, []⟩,
  ⟨some 74, .mv (.tmp 0), none, []⟩,
  ⟨some 75, .mv (.tmp 11), none, []⟩,
  ⟨some 76, .idxs 1 (.tmp 74) (.tmp 75), none, []⟩,
  ⟨some 77, .load 1 false (.tmp 76), none, []⟩,
  ⟨some 78, .idxs 1 (.tmp 66) (.tmp 67), none, []⟩,
  ⟨none, .store 1 (.tmp 78) (.tmp 73), none, []⟩,
  ⟨some 79, .idxs 1 (.tmp 68) (.tmp 69), none, []⟩,
  ⟨none, .store 1 (.tmp 79) (.tmp 77), none, []⟩]
def F.slices_partitionOrdered_int.r9 : List DOp := [
  ⟨some 80, .mv (.tmp 11), none, []⟩,
  ⟨some 8, .mv (.tmp 80), none, []⟩,
  ⟨some 9, .mv (.const (.bool true)), none, []⟩]
def F.slices_partitionOrdered_int.r10 : List DOp := [
  ⟨some 81, .mv (.tmp 0), none, []⟩,
  ⟨some 82, .mv (.tmp 10), none, []⟩,
  ⟨some 83, .mv (.tmp 0), none, []⟩,
  ⟨some 84, .mv (.tmp 11), none, []⟩,
  ⟨some 85, .mv (.tmp 0), none, []⟩,
  ⟨some 86, .mv (.tmp 11), none, []⟩,
  ⟨some 87, .idxs 1 (.tmp 85) (.tmp 86), none, []⟩,
  ⟨some 88, .load 1 false (.tmp 87), none, []⟩,
  ⟨some 89, .mv (.tmp 0), none, []⟩,
  ⟨some 90, .mv (.tmp 10), none, []⟩,
  ⟨some 91, .idxs 1 (.tmp 89) (.tmp 90), none, []⟩,
  ⟨some 92, .load 1 false (.tmp 91), none, []⟩,
  ⟨some 93, .idxs 1 (.tmp 81) (.tmp 82), none, []⟩,
  ⟨none, .store 1 (.tmp 93) (.tmp 88), none, []⟩,
  ⟨some 94, .idxs 1 (.tmp 83) (.tmp 84), none, []⟩,
  ⟨none, .store 1 (.tmp 94) (.tmp 92), none, []⟩]
def F.slices_partitionOrdered_int.r11 : List DOp := [
  ⟨some 95, .mv (.tmp 10), none, []⟩,
  ⟨some 96, .bin .add (.tmp 95) (.const (.int .i64 1)), none, []⟩,
  ⟨some 10, .mv (.tmp 96), none, []⟩]
def F.slices_partitionOrdered_int.r12 : List DOp := [
  ⟨some 97, .mv (.tmp 11), none, []⟩,
  ⟨some 98, .bin .sub (.tmp 97) (.const (.int .i64 1)), none, []⟩,
  ⟨some 11, .mv (.tmp 98), none, []⟩]
def F.slices_partitionOrdered_int.r13 : List DOp := [
  ⟨some 99, .mv (.tmp 10), none, []⟩,
  ⟨some 100, .mv (.tmp 11), none, []⟩,
  ⟨some 101, .bin .leq (.tmp 99) (.tmp 100), none, []⟩,
  ⟨some 102, .mv (.tmp 101), none, []⟩,
  ⟨some 103, .mv (.tmp 0), (some (102, true)), []⟩,
  ⟨some 104, .mv (.tmp 10), (some (102, true)), []⟩,
  ⟨some 105, .idxs 1 (.tmp 103) (.tmp 104), (some (102, true)), []⟩,
  ⟨some 106, .load 1 false (.tmp 105), (some (102, true)), []⟩,
  ⟨some 107, .mv (.tmp 0), (some (102, true)), []⟩,
  ⟨some 108, .mv (.tmp 1), (some (102, true)), []⟩,
  ⟨some 109, .idxs 1 (.tmp 107) (.tmp 108), (some (102, true)), []⟩,
  ⟨some 110, .load 1 false (.tmp 109), (some (102, true)), []⟩,
  ⟨some 111, .call I.cmp_Less_int [.tmp 106, .tmp 110], (some (102, true)), []⟩,
  ⟨some 112, .pick (.tmp 102) (.tmp 111) (.const (.bool false)), none, []⟩]
def F.slices_partitionOrdered_int.r14 : List DOp := [
  ⟨some 113, .mv (.tmp 10), none, []⟩,
  ⟨some 114, .bin .add (.tmp 113) (.const (.int .i64 1)), none, []⟩,
  ⟨some 10, .mv (.tmp 114), none, []⟩]
def F.slices_partitionOrdered_int.L3 : ACode := .seq (.seq (.draw F.slices_partitionOrdered_int.r13 []) (.cond (.tmp 112) (.skip) (.exit 6))) (.block 7 (.region F.slices_partitionOrdered_int.r14))
def F.slices_partitionOrdered_int.r15 : List DOp := [
  ⟨some 115, .mv (.tmp 10), none, []⟩,
  ⟨some 116, .mv (.tmp 11), none, []⟩,
  ⟨some 117, .bin .leq (.tmp 115) (.tmp 116), none, []⟩,
  ⟨some 118, .mv (.tmp 117), none, []⟩,
  ⟨some 119, .mv (.tmp 0), (some (118, true)), []⟩,
  ⟨some 120, .mv (.tmp 11), (some (118, true)), []⟩,
  ⟨some 121, .idxs 1 (.tmp 119) (.tmp 120), (some (118, true)), []⟩,
  ⟨some 122, .load 1 false (.tmp 121), (some (118, true)), []⟩,
  ⟨some 123, .mv (.tmp 0), (some (118, true)), []⟩,
  ⟨some 124, .mv (.tmp 1), (some (118, true)), []⟩,
  ⟨some 125, .idxs 1 (.tmp 123) (.tmp 124), (some (118, true)), []⟩,
  ⟨some 126, .load 1 false (.tmp 125), (some (118, true)), []⟩,
  ⟨some 127, .call I.cmp_Less_int [.tmp 122, .tmp 126], (some (118, true)), []⟩,
  ⟨some 128, .un .not (.tmp 127), (some (118, true)), []⟩,
  ⟨some 129, .pick (.tmp 118) (.tmp 128) (.const (.bool false)), none, []⟩]
def F.slices_partitionOrdered_int.r16 : List DOp := [
  ⟨some 130, .mv (.tmp 11), none, []⟩,
  ⟨some 131, .bin .sub (.tmp 130) (.const (.int .i64 1)), none, []⟩,
  ⟨some 11, .mv (.tmp 131), none, []⟩]
def F.slices_partitionOrdered_int.L4 : ACode := .seq (.seq (.draw F.slices_partitionOrdered_int.r15 []) (.cond (.tmp 129) (.skip) (.exit 8))) (.block 9 (.region F.slices_partitionOrdered_int.r16))
def F.slices_partitionOrdered_int.r17 : List DOp := [
  ⟨some 132, .mv (.tmp 10), none, []⟩,
  ⟨some 133, .mv (.tmp 11), none, []⟩,
  ⟨some 134, .bin .gtr (.tmp 132) (.tmp 133), none, []⟩]
def F.slices_partitionOrdered_int.r18 : List DOp := [
  ⟨some 135, .mv (.tmp 0), none, []⟩,
  ⟨some 136, .mv (.tmp 10), none, []⟩,
  ⟨some 137, .mv (.tmp 0), none, []⟩,
  ⟨some 138, .mv (.tmp 11), none, []⟩,
  ⟨some 139, .mv (.tmp 0), none, []⟩,
  ⟨some 140, .mv (.tmp 11), none, []⟩,
  ⟨some 141, .idxs 1 (.tmp 139) (.tmp 140), none, []⟩,
  ⟨some 142, .load 1 false (.tmp 141), none, []⟩,
  ⟨some 143, .mv (.tmp 0), none, []⟩,
  ⟨some 144, .mv (.tmp 10), none, []⟩,
  ⟨some 145, .idxs 1 (.tmp 143) (.tmp 144), none, []⟩,
  ⟨some 146, .load 1 false (.tmp 145), none, []⟩,
  ⟨some 147, .idxs 1 (.tmp 135) (.tmp 136), none, []⟩,
  ⟨none, .store 1 (.tmp 147) (.tmp 142), none, []⟩,
  ⟨some 148, .idxs 1 (.tmp 137) (.tmp 138), none, []⟩,
  ⟨none, .store 1 (.tmp 148) (.tmp 146), none, []⟩]
def F.slices_partitionOrdered_int.r19 : List DOp := [
  ⟨some 149, .mv (.tmp 10), none, []⟩,
  ⟨some 150, .bin .add (.tmp 149) (.const (.int .i64 1)), none, []⟩,
  ⟨some 10, .mv (.tmp 150), none, []⟩]
def F.slices_partitionOrdered_int.r20 : List DOp := [
  ⟨some 151, .mv (.tmp 11), none, []⟩,
  ⟨some 152, .bin .sub (.tmp 151) (.const (.int .i64 1)), none, []⟩,
  ⟨some 11, .mv (.tmp 152), none, []⟩]
def F.slices_partitionOrdered_int.L2 : ACode := .block 5 (.seq (.block 6 (.loop F.slices_partitionOrdered_int.L3)) (.seq (.block 8 (.loop F.slices_partitionOrdered_int.L4)) (.seq (.seq (.region F.slices_partitionOrdered_int.r17) (.cond (.tmp 134) (.exit 4) (.skip))) (.seq (.draw F.slices_partitionOrdered_int.r18 []) (.seq (.region F.slices_partitionOrdered_int.r19) (.region F.slices_partitionOrdered_int.r20))))))
def F.slices_partitionOrdered_int.r21 : List DOp := [
  ⟨some 153, .mv (.tmp 0), none, []⟩,
  ⟨some 154, .mv (.tmp 11), none, []⟩,
  ⟨some 155, .mv (.tmp 0), none, []⟩,
  ⟨some 156, .mv (.tmp 1), none, []⟩,
  ⟨some 157, .mv (.tmp 0), none, []⟩,
  ⟨some 158, .mv (.tmp 1), none, []⟩,
  ⟨some 159, .idxs 1 (.tmp 157) (.tmp 158), none, []⟩,
  ⟨some 160, .load 1 false (.tmp 159), none, []⟩,
  ⟨some 161, .mv (.tmp 0), none, []⟩,
  ⟨some 162, .mv (.tmp 11), none, []⟩,
  ⟨some 163, .idxs 1 (.tmp 161) (.tmp 162), none, []⟩,
  ⟨some 164, .load 1 false (.tmp 163), none, []⟩,
  ⟨some 165, .idxs 1 (.tmp 153) (.tmp 154), none, []⟩,
  ⟨none, .store 1 (.tmp 165) (.tmp 160), none, []⟩,
  ⟨some 166, .idxs 1 (.tmp 155) (.tmp 156), none, []⟩,
  ⟨none, .store 1 (.tmp 166) (.tmp 164), none, []⟩]
def F.slices_partitionOrdered_int.r22 : List DOp := [
  ⟨some 167, .mv (.tmp 11), none, []⟩,
  ⟨some 8, .mv (.tmp 167), none, []⟩,
  ⟨some 9, .mv (.const (.bool false)), none, []⟩]
def F.slices_partitionOrdered_int.c : ACode := .seq (.region F.slices_partitionOrdered_int.r0) (.seq (.draw F.slices_partitionOrdered_int.r1 []) (.seq (.region F.slices_partitionOrdered_int.r2) (.seq (.block 0 (.loop F.slices_partitionOrdered_int.L0)) (.seq (.block 2 (.loop F.slices_partitionOrdered_int.L1)) (.seq (.seq (.region F.slices_partitionOrdered_int.r7) (.cond (.tmp 65) (.seq (.draw F.slices_partitionOrdered_int.r8 []) (.seq (.region F.slices_partitionOrdered_int.r9) (.ret))) (.skip))) (.seq (.draw F.slices_partitionOrdered_int.r10 []) (.seq (.region F.slices_partitionOrdered_int.r11) (.seq (.region F.slices_partitionOrdered_int.r12) (.seq (.block 4 (.loop F.slices_partitionOrdered_int.L2)) (.seq (.draw F.slices_partitionOrdered_int.r21 []) (.seq (.region F.slices_partitionOrdered_int.r22) (.ret))))))))))))
def F.slices_partitionOrdered_int : AFunc := ⟨F.slices_partitionOrdered_int.c, [.tmp 8, .tmp 9]⟩
/-! slices.siftDownOrdered[int] -/
def F.slices_siftDownOrdered_int.r0 : List DOp := [
  ⟨some 10, .mv (.tmp 1), none, []⟩,
  ⟨some 8, .mv (.tmp 10), none, []⟩]
def F.slices_siftDownOrdered_int.r1 : List DOp := [
  ⟨some 11, .mv (.tmp 8), none, []⟩,
  ⟨some 12, .bin .mul (.const (.int .i64 2)) (.tmp 11), none, []⟩,
  ⟨some 13, .bin .add (.tmp 12) (.const (.int .i64 1)), none, []⟩,
  ⟨some 9, .mv (.tmp 13), none, []⟩]
def F.slices_siftDownOrdered_int.r2 : List DOp := [
  ⟨some 14, .mv (.tmp 9), none, []⟩,
  ⟨some 15, .mv (.tmp 2), none, []⟩,
  ⟨some 16, .bin .geq (.tmp 14) (.tmp 15), none, []⟩]
def F.slices_siftDownOrdered_int.r3 : List DOp := [
  ⟨some 17, .mv (.tmp 9), none, []⟩,
  ⟨some 18, .bin .add (.tmp 17) (.const (.int .i64 1)), none, []⟩,
  ⟨some 19, .mv (.tmp 2), none, []⟩,
  ⟨some 20, .bin .lss (.tmp 18) (.tmp 19), none, []⟩,
  ⟨some 21, .mv (.tmp 20), none, []⟩,
  ⟨some 22, .mv (.tmp 0), (some (21, true)), []⟩,
  ⟨some 23, .mv (.tmp 3), (some (21, true)), []⟩,
  ⟨some 24, .mv (.tmp 9), (some (21, true)), []⟩,
  ⟨some 25, .bin .add (.tmp 23) (.tmp 24), (some (21, true)), []⟩,
  ⟨some 26, .idxs 1 (.tmp 22) (.tmp 25), (some (21, true)), []⟩,
  ⟨some 27, .load 1 false (.tmp 26), (some (21, true)), []⟩,
  ⟨some 28, .mv (.tmp 0), (some (21, true)), []⟩,
  ⟨some 29, .mv (.tmp 3), (some (21, true)), []⟩,
  ⟨some 30, .mv (.tmp 9), (some (21, true)), []⟩,
  ⟨some 31, .bin .add (.tmp 29) (.tmp 30), (some (21, true)), []⟩,
  ⟨some 32, .bin .add (.tmp 31) (.const (.int .i64 1)), (some (21, true)), []⟩,
  ⟨some 33, .idxs 1 (.tmp 28) (.tmp 32), (some (21, true)), []⟩,
  ⟨some 34, .load 1 false (.tmp 33), (some (21, true)), []⟩,
  ⟨some 35, .call I.cmp_Less_int [.tmp 27, .tmp 34], (some (21, true)), []⟩,
  ⟨some 36, .pick (.tmp 21) (.tmp 35) (.const (.bool false)), none, []⟩]
def F.slices_siftDownOrdered_int.r4 : List DOp := [
  ⟨some 37, .mv (.tmp 9), none, []⟩,
  ⟨some 38, .bin .add (.tmp 37) (.const (.int .i64 1)), none, []⟩,
  ⟨some 9, .mv (.tmp 38), none, []⟩]
def F.slices_siftDownOrdered_int.r5 : List DOp := [
  ⟨some 39, .mv (.tmp 0), none, []⟩,
  ⟨some 40, .mv (.tmp 3), none, []⟩,
  ⟨some 41, .mv (.tmp 8), none, []⟩,
  ⟨some 42, .bin .add (.tmp 40) (.tmp 41), none, []⟩,
  ⟨some 43, .idxs 1 (.tmp 39) (.tmp 42), none, []⟩,
  ⟨some 44, .load 1 false (.tmp 43), none, []⟩,
  ⟨some 45, .mv (.tmp 0), none, []⟩,
  ⟨some 46, .mv (.tmp 3), none, []⟩,
  ⟨some 47, .mv (.tmp 9), none, []⟩,
  ⟨some 48, .bin .add (.tmp 46) (.tmp 47), none, []⟩,
  ⟨some 49, .idxs 1 (.tmp 45) (.tmp 48), none, []⟩,
  ⟨some 50, .load 1 false (.tmp 49), none, []⟩,
  ⟨some 51, .call I.cmp_Less_int [.tmp 44, .tmp 50], none, []⟩,
  ⟨some 52, .un .not (.tmp 51), none, []⟩]
def F.slices_siftDownOrdered_int.r6 : List DOp := [
  ⟨some 53, .mv (.tmp 0), none, []⟩,
  ⟨some 54, .mv (.tmp 3), none, []⟩,
  ⟨some 55, .mv (.tmp 8), none, []⟩,
  ⟨some 56, .bin .add (.tmp 54) (.tmp 55), none, []⟩,
  ⟨some 57, .mv (.tmp 0), none, []⟩,
  ⟨some 58, .mv (.tmp 3), none, []⟩,
  ⟨some 59, .mv (.tmp 9), none, []⟩,
  ⟨some 60, .bin .add (.tmp 58) (.tmp 59), none, []⟩,
  ⟨some 61, .mv (.tmp 0), none, []⟩,
  ⟨some 62, .mv (.tmp 3), none, []⟩,
  ⟨some 63, .mv (.tmp 9), none, []⟩,
  ⟨some 64, .bin .add (.tmp 62) (.tmp 63), none, []⟩,
  ⟨some 65, .idxs 1 (.tmp 61) (.tmp 64), none, []⟩,
  ⟨some 66, .load 1 false (.tmp 65), none, []⟩,
  ⟨some 67, .mv (.tmp 0), none, []⟩,
  ⟨some 68, .mv (.tmp 3), none, []⟩,
  ⟨some 69, .mv (.tmp 8), none, []⟩,
  ⟨some 70, .bin .add (.tmp 68) (.tmp 69), none, []⟩,
  ⟨some 71, .idxs 1 (.tmp 67) (.tmp 70), none, []⟩,
  ⟨some 72, .load 1 false (.tmp 71), none, []⟩,
  ⟨some 73, .idxs 1 (.tmp 53) (.tmp 56), none, []⟩,
  ⟨none, .store 1 (.tmp 73) (.tmp 66), none, []⟩,
  ⟨some 74, .idxs 1 (.tmp 57) (.tmp 60), none, []⟩,
  ⟨none, .store 1 (.tmp 74) (.tmp 72), none, []⟩]
def F.slices_siftDownOrdered_int.r7 : List DOp := [
  ⟨some 75, .mv (.tmp 9), none, []⟩,
  ⟨some 8, .mv (.tmp 75), none, []⟩]
def F.slices_siftDownOrdered_int.L0 : ACode := .block 1 (.seq (.region F.slices_siftDownOrdered_int.r1) (.seq (.seq (.region F.slices_siftDownOrdered_int.r2) (.cond (.tmp 16) (.exit 0) (.skip))) (.seq (.seq (.draw F.slices_siftDownOrdered_int.r3 []) (.cond (.tmp 36) (.region F.slices_siftDownOrdered_int.r4) (.skip))) (.seq (.seq (.draw F.slices_siftDownOrdered_int.r5 []) (.cond (.tmp 52) (.ret) (.skip))) (.seq (.draw F.slices_siftDownOrdered_int.r6 []) (.region F.slices_siftDownOrdered_int.r7))))))
def F.slices_siftDownOrdered_int.c : ACode := .seq (.region F.slices_siftDownOrdered_int.r0) (.block 0 (.loop F.slices_siftDownOrdered_int.L0))
def F.slices_siftDownOrdered_int : AFunc := ⟨F.slices_siftDownOrdered_int.c, []⟩
/-! slices.nextPowerOfTwo -/
def F.slices_nextPowerOfTwo.r0 : List DOp := [
  ⟨some 2, .mv (.const (.int .u64 0)), none, []⟩]
def F.slices_nextPowerOfTwo.r1 : List DOp := [
  ⟨some 3, .mv (.tmp 0), none, []⟩,
  ⟨some 4, .conv .u64 (.tmp 3), none, []⟩,
  ⟨some 5, .call I.math_bits_Len [.tmp 4], none, []⟩,
  ⟨some 6, .bin .shl (.const (.int .u64 1)) (.tmp 5), none, []⟩,
  ⟨some 2, .mv (.tmp 6), none, []⟩]
def F.slices_nextPowerOfTwo.c : ACode := .seq (.region F.slices_nextPowerOfTwo.r0) (.seq (.region F.slices_nextPowerOfTwo.r1) (.ret))
def F.slices_nextPowerOfTwo : AFunc := ⟨F.slices_nextPowerOfTwo.c, [.tmp 2]⟩
/-! (*slices.xorshift).Next -/
def F.slices_xorshift_Next.r0 : List DOp := [
  ⟨some 2, .mv (.const (.int .u64 0)), none, []⟩]
def F.slices_xorshift_Next.r1 : List DOp := [
  ⟨some 3, .mv (.tmp 0), none, []⟩,
  ⟨some 4, .nilchk (.tmp 3), none, []⟩,
  ⟨some 5, .load 1 false (.tmp 4), none, []⟩,
  ⟨some 6, .mv (.tmp 0), none, []⟩,
  ⟨some 7, .nilchk (.tmp 6), none, []⟩,
  ⟨some 8, .load 1 false (.tmp 7), none, []⟩,
  ⟨some 9, .bin .shl (.tmp 8) (.const (.int .u64 13)), none, []⟩,
  ⟨some 10, .bin .xor (.tmp 5) (.tmp 9), none, []⟩,
  ⟨some 11, .nilchk (.tmp 3), none, []⟩,
  ⟨none, .store 1 (.tmp 11) (.tmp 10), none, []⟩]
def F.slices_xorshift_Next.r2 : List DOp := [
  ⟨some 12, .mv (.tmp 0), none, []⟩,
  ⟨some 13, .nilchk (.tmp 12), none, []⟩,
  ⟨some 14, .load 1 false (.tmp 13), none, []⟩,
  ⟨some 15, .mv (.tmp 0), none, []⟩,
  ⟨some 16, .nilchk (.tmp 15), none, []⟩,
  ⟨some 17, .load 1 false (.tmp 16), none, []⟩,
  ⟨some 18, .bin .shr (.tmp 17) (.const (.int .u64 7)), none, []⟩,
  ⟨some 19, .bin .xor (.tmp 14) (.tmp 18), none, []⟩,
  ⟨some 20, .nilchk (.tmp 12), none, []⟩,
  ⟨none, .store 1 (.tmp 20) (.tmp 19), none, []⟩]
def F.slices_xorshift_Next.r3 : List DOp := [
  ⟨some 21, .mv (.tmp 0), none, []⟩,
  ⟨some 22, .nilchk (.tmp 21), none, []⟩,
  ⟨some 23, .load 1 false (.tmp 22), none, []⟩,
  ⟨some 24, .mv (.tmp 0), none, []⟩,
  ⟨some 25, .nilchk (.tmp 24), none, []⟩,
  ⟨some 26, .load 1 false (.tmp 25), none, []⟩,
  ⟨some 27, .bin .shl (.tmp 26) (.const (.int .u64 17)), none, []⟩,
  ⟨some 28, .bin .xor (.tmp 23) (.tmp 27), none, []⟩,
  ⟨some 29, .nilchk (.tmp 21), none, []⟩,
  ⟨none, .store 1 (.tmp 29) (.tmp 28), none, []⟩]
def F.slices_xorshift_Next.r4 : List DOp := [
  ⟨some 30, .mv (.tmp 0), none, []⟩,
  ⟨some 31, .nilchk (.tmp 30), none, []⟩,
  ⟨some 32, .load 1 false (.tmp 31), none, []⟩,
  ⟨some 2, .mv (.tmp 32), none, []⟩]
def F.slices_xorshift_Next.c : ACode := .seq (.region F.slices_xorshift_Next.r0) (.seq (.draw F.slices_xorshift_Next.r1 []) (.seq (.draw F.slices_xorshift_Next.r2 []) (.seq (.draw F.slices_xorshift_Next.r3 []) (.seq (.region F.slices_xorshift_Next.r4) (.ret)))))
def F.slices_xorshift_Next : AFunc := ⟨F.slices_xorshift_Next.c, [.tmp 2]⟩
/-! slices.medianAdjacentOrdered[int] -/
def F.slices_medianAdjacentOrdered_int.r0 : List DOp := [
  ⟨some 6, .mv (.const (.int .i64 0)), none, []⟩]
def F.slices_medianAdjacentOrdered_int.r1 : List DOp := [
  ⟨some 7, .mv (.tmp 0), none, []⟩,
  ⟨some 8, .mv (.tmp 1), none, []⟩,
  ⟨some 9, .bin .sub (.tmp 8) (.const (.int .i64 1)), none, []⟩,
  ⟨some 10, .mv (.tmp 1), none, []⟩,
  ⟨some 11, .mv (.tmp 1), none, []⟩,
  ⟨some 12, .bin .add (.tmp 11) (.const (.int .i64 1)), none, []⟩,
  ⟨some 13, .mv (.tmp 2), none, []⟩,
  ⟨some 14, .call I.slices_medianOrdered_int [.tmp 7, .tmp 9, .tmp 10, .tmp 12, .tmp 13], none, []⟩,
  ⟨some 6, .mv (.tmp 14), none, []⟩]
def F.slices_medianAdjacentOrdered_int.c : ACode := .seq (.region F.slices_medianAdjacentOrdered_int.r0) (.seq (.region F.slices_medianAdjacentOrdered_int.r1) (.ret))
def F.slices_medianAdjacentOrdered_int : AFunc := ⟨F.slices_medianAdjacentOrdered_int.c, [.tmp 6]⟩
/-! slices.medianOrdered[int] -/
def F.slices_medianOrdered_int.r0 : List DOp := [
  ⟨some 10, .mv (.const (.int .i64 0)), none, []⟩]
def F.slices_medianOrdered_int.r1 : List DOp := [
  ⟨some 12, .mv (.tmp 0), none, []⟩,
  ⟨some 13, .mv (.tmp 1), none, []⟩,
  ⟨some 14, .mv (.tmp 2), none, []⟩,
  ⟨some 15, .mv (.tmp 4), none, []⟩,
  ⟨some 16, .call I.slices_order2Ordered_int [.tmp 12, .tmp 13, .tmp 14, .tmp 15], none, []⟩,
  ⟨some 11, .mv (.tmp 16), none, []⟩,
  ⟨some 17, .extract (.tmp 11) 0, none, []⟩,
  ⟨some 18, .extract (.tmp 11) 1, none, []⟩,
  ⟨some 1, .mv (.tmp 17), none, []⟩,
  ⟨some 2, .mv (.tmp 18), none, []⟩]
def F.slices_medianOrdered_int.r2 : List DOp := [
  ⟨some 20, .mv (.tmp 0), none, []⟩,
  ⟨some 21, .mv (.tmp 2), none, []⟩,
  ⟨some 22, .mv (.tmp 3), none, []⟩,
  ⟨some 23, .mv (.tmp 4), none, []⟩,
  ⟨some 24, .call I.slices_order2Ordered_int [.tmp 20, .tmp 21, .tmp 22, .tmp 23], none, []⟩,
  ⟨some 19, .mv (.tmp 24), none, []⟩,
  ⟨some 25, .extract (.tmp 19) 0, none, []⟩,
  ⟨some 26, .extract (.tmp 19) 1, none, []⟩,
  ⟨some 2, .mv (.tmp 25), none, []⟩,
  ⟨some 3, .mv (.tmp 26), none, []⟩]
def F.slices_medianOrdered_int.r3 : List DOp := [
  ⟨some 28, .mv (.tmp 0), none, []⟩,
  ⟨some 29, .mv (.tmp 1), none, []⟩,
  ⟨some 30, .mv (.tmp 2), none, []⟩,
  ⟨some 31, .mv (.tmp 4), none, []⟩,
  ⟨some 32, .call I.slices_order2Ordered_int [.tmp 28, .tmp 29, .tmp 30, .tmp 31], none, []⟩,
  ⟨some 27, .mv (.tmp 32), none, []⟩,
  ⟨some 33, .extract (.tmp 27) 0, none, []⟩,
  ⟨some 34, .extract (.tmp 27) 1, none, []⟩,
  ⟨some 1, .mv (.tmp 33), none, []⟩,
  ⟨some 2, .mv (.tmp 34), none, []⟩]
def F.slices_medianOrdered_int.r4 : List DOp := [
  ⟨some 35, .mv (.tmp 2), none, []⟩,
  ⟨some 10, .mv (.tmp 35), none, []⟩]
def F.slices_medianOrdered_int.c : ACode := .seq (.region F.slices_medianOrdered_int.r0) (.seq (.region F.slices_medianOrdered_int.r1) (.seq (.region F.slices_medianOrdered_int.r2) (.seq (.region F.slices_medianOrdered_int.r3) (.seq (.region F.slices_medianOrdered_int.r4) (.ret)))))
def F.slices_medianOrdered_int : AFunc := ⟨F.slices_medianOrdered_int.c, [.tmp 10]⟩
/-! slices.order2Ordered[int] -/
def F.slices_order2Ordered_int.r0 : List DOp := [
  ⟨some 8, .mv (.const (.int .i64 0)), none, []⟩,
  ⟨some 9, .mv (.const (.int .i64 0)), none, []⟩]
def F.slices_order2Ordered_int.r1 : List DOp := [
  ⟨some 10, .mv (.tmp 0), none, []⟩,
  ⟨some 11, .mv (.tmp 2), none, []⟩,
  ⟨some 12, .idxs 1 (.tmp 10) (.tmp 11), none, []⟩,
  ⟨some 13, .load 1 false (.tmp 12), none, []⟩,
  ⟨some 14, .mv (.tmp 0), none, []⟩,
  ⟨some 15, .mv (.tmp 1), none, []⟩,
  ⟨some 16, .idxs 1 (.tmp 14) (.tmp 15), none, []⟩,
  ⟨some 17, .load 1 false (.tmp 16), none, []⟩,
  ⟨some 18, .call I.cmp_Less_int [.tmp 13, .tmp 17], none, []⟩]
def F.slices_order2Ordered_int.r2 : List DOp := [
  ⟨some 19, .mv (.tmp 3), none, []⟩,
  ⟨some 20, .nilchk (.tmp 19), none, []⟩,
  ⟨some 21, .load 1 false (.tmp 20), none, []⟩,
  ⟨some 22, .bin .add (.tmp 21) (.const (.int .i64 1)), none, []⟩,
  ⟨some 23, .nilchk (.tmp 19), none, []⟩,
  ⟨none, .store 1 (.tmp 23) (.tmp 22), none, []⟩]
def F.slices_order2Ordered_int.r3 : List DOp := [
  ⟨some 24, .mv (.tmp 2), none, []⟩,
  ⟨some 25, .mv (.tmp 1), none, []⟩,
  ⟨some 8, .mv (.tmp 24), none, []⟩,
  ⟨some 9, .mv (.tmp 25), none, []⟩]
def F.slices_order2Ordered_int.r4 : List DOp := [
  ⟨some 26, .mv (.tmp 1), none, []⟩,
  ⟨some 27, .mv (.tmp 2), none, []⟩,
  ⟨some 8, .mv (.tmp 26), none, []⟩,
  ⟨some 9, .mv (.tmp 27), none, []⟩]
def F.slices_order2Ordered_int.c : ACode := .seq (.region F.slices_order2Ordered_int.r0) (.seq (.seq (.draw F.slices_order2Ordered_int.r1 []) (.cond (.tmp 18) (.seq (.region F.slices_order2Ordered_int.r2) (.seq (.region F.slices_order2Ordered_int.r3) (.ret))) (.skip))) (.seq (.region F.slices_order2Ordered_int.r4) (.ret)))
def F.slices_order2Ordered_int : AFunc := ⟨F.slices_order2Ordered_int.c, [.tmp 8, .tmp 9]⟩
end Go.Proofs.Ytbehlbabgomhfaa
