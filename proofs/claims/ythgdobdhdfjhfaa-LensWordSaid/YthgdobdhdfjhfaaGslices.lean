/- The abstract code of package slices, written by wip/tools/gen.py from the translation. -/
import Derived.Test.YthgdobdhdfjhfaaI
namespace Go.Proofs.Ythgdobdhdfjhfaa
open Go Go.Ab
/-! slices.Equal[[]int,int] -/
def F.slices_Equal_int_int.r0 : List DOp := [
  ⟨some 4, .mv (.const (.bool false)), none, []⟩]
def F.slices_Equal_int_int.r1 : List DOp := [
  ⟨some 6, .mv (.tmp 0), none, []⟩,
  ⟨some 7, .len (.tmp 6), none, []⟩,
  ⟨some 8, .mv (.tmp 1), none, []⟩,
  ⟨some 9, .len (.tmp 8), none, []⟩,
  ⟨some 10, .bin .neq (.tmp 7) (.tmp 9), none, []⟩]
def F.slices_Equal_int_int.r2 : List DOp := [
  ⟨some 4, .mv (.const (.bool false)), none, []⟩]
def F.slices_Equal_int_int.r3 : List DOp := [
  ⟨some 11, .mv (.tmp 0), none, []⟩,
  ⟨some 12, .len (.tmp 11), none, []⟩,
  ⟨some 13, .mv (.const (.int .i64 0)), none, []⟩]
def F.slices_Equal_int_int.r4 : List DOp := [
  ⟨some 14, .bin .lss (.tmp 13) (.tmp 12), none, []⟩]
def F.slices_Equal_int_int.r5 : List DOp := [
  ⟨some 15, .mv (.tmp 13), none, []⟩,
  ⟨some 5, .mv (.tmp 15), none, []⟩]
def F.slices_Equal_int_int.r6 : List DOp := [
  ⟨some 16, .mv (.tmp 0), none, []⟩,
  ⟨some 17, .mv (.tmp 5), none, []⟩,
  ⟨some 18, .idxs 1 (.tmp 16) (.tmp 17), none, []⟩,
  ⟨some 19, .load 1 false (.tmp 18), none, []⟩,
  ⟨some 20, .mv (.tmp 1), none, []⟩,
  ⟨some 21, .mv (.tmp 5), none, []⟩,
  ⟨some 22, .idxs 1 (.tmp 20) (.tmp 21), none, []⟩,
  ⟨some 23, .load 1 false (.tmp 22), none, []⟩,
  ⟨some 24, .bin .neq (.tmp 19) (.tmp 23), none, []⟩]
def F.slices_Equal_int_int.r7 : List DOp := [
  ⟨some 4, .mv (.const (.bool false)), none, []⟩]
def F.slices_Equal_int_int.r8 : List DOp := [
  ⟨some 25, .bin .add (.tmp 13) (.const (.int .i64 1)), none, []⟩,
  ⟨some 13, .mv (.tmp 25), none, []⟩]
def F.slices_Equal_int_int.L0 : ACode := .seq (.region F.slices_Equal_int_int.r4) (.seq (.cond (.tmp 14) (.skip) (.exit 0)) (.seq (.block 1 (.seq (.region F.slices_Equal_int_int.r5) (.seq (.draw F.slices_Equal_int_int.r6 []) (.cond (.tmp 24) (.seq (.region F.slices_Equal_int_int.r7) (.ret)) (.skip))))) (.region F.slices_Equal_int_int.r8)))
def F.slices_Equal_int_int.r9 : List DOp := [
  ⟨some 4, .mv (.const (.bool true)), none, []⟩]
def F.slices_Equal_int_int.c : ACode := .seq (.region F.slices_Equal_int_int.r0) (.seq (.seq (.region F.slices_Equal_int_int.r1) (.cond (.tmp 10) (.seq (.region F.slices_Equal_int_int.r2) (.ret)) (.skip))) (.seq (.seq (.region F.slices_Equal_int_int.r3) (.block 0 (.loop F.slices_Equal_int_int.L0))) (.seq (.region F.slices_Equal_int_int.r9) (.ret))))
def F.slices_Equal_int_int : AFunc := ⟨F.slices_Equal_int_int.c, [.tmp 4]⟩
/-! slices.Clone[[]parlance/api.Rule,parlance/api.Rule] -/
def F.slices_Clone_api_Rule_api_Rule.r0 : List DOp := [
  ⟨some 2, .mv (.const (.slice none 0 0)), none, []⟩]
def F.slices_Clone_api_Rule_api_Rule.r1 : List DOp := [
  ⟨some 3, .mv (.tmp 0), none, []⟩,
  ⟨some 4, .eq false .slice (.tmp 3) (.const (.slice none 0 0)), none, []⟩]
def F.slices_Clone_api_Rule_api_Rule.r2 : List DOp := [
  ⟨some 2, .mv (.const (.slice none 0 0)), none, []⟩]
def F.slices_Clone_api_Rule_api_Rule.r3 : List DOp := [
  ⟨some 5, .bslice 2 0 [] [], none, []⟩,
  ⟨some 6, .mv (.tmp 0), none, []⟩,
  ⟨some 7, .append 2 32 (.tmp 5) (.tmp 6), none, []⟩,
  ⟨some 2, .mv (.tmp 7), none, []⟩]
def F.slices_Clone_api_Rule_api_Rule.c : ACode := .seq (.region F.slices_Clone_api_Rule_api_Rule.r0) (.seq (.seq (.region F.slices_Clone_api_Rule_api_Rule.r1) (.cond (.tmp 4) (.seq (.region F.slices_Clone_api_Rule_api_Rule.r2) (.ret)) (.skip))) (.seq (.region F.slices_Clone_api_Rule_api_Rule.r3) (.ret)))
def F.slices_Clone_api_Rule_api_Rule : AFunc := ⟨F.slices_Clone_api_Rule_api_Rule.c, [.tmp 2]⟩
/-! slices.Reverse[[]parlance/api.Rule,parlance/api.Rule] -/
def F.slices_Reverse_api_Rule_api_Rule.r0 : List DOp := [
  ⟨some 4, .mv (.tmp 0), none, []⟩,
  ⟨some 5, .len (.tmp 4), none, []⟩,
  ⟨some 6, .bin .sub (.tmp 5) (.const (.int .i64 1)), none, []⟩,
  ⟨some 2, .mv (.const (.int .i64 0)), none, []⟩,
  ⟨some 3, .mv (.tmp 6), none, []⟩]
def F.slices_Reverse_api_Rule_api_Rule.r1 : List DOp := [
  ⟨some 7, .mv (.tmp 2), none, []⟩,
  ⟨some 8, .mv (.tmp 3), none, []⟩,
  ⟨some 9, .bin .lss (.tmp 7) (.tmp 8), none, []⟩]
def F.slices_Reverse_api_Rule_api_Rule.r3 : List DOp := [
  ⟨some 14, .mv (.tmp 0), none, []⟩,
  ⟨some 15, .mv (.tmp 2), none, []⟩,
  ⟨some 16, .mv (.tmp 0), none, []⟩,
  ⟨some 17, .mv (.tmp 3), none, []⟩,
  ⟨some 18, .mv (.tmp 0), none, []⟩,
  ⟨some 19, .mv (.tmp 3), none, []⟩,
  ⟨some 20, .idxs 2 (.tmp 18) (.tmp 19), none, []⟩,
  ⟨some 21, .load 2 true (.tmp 20), none, []⟩,
  ⟨some 22, .mv (.tmp 0), none, []⟩,
  ⟨some 23, .mv (.tmp 2), none, []⟩,
  ⟨some 24, .idxs 2 (.tmp 22) (.tmp 23), none, []⟩,
  ⟨some 25, .load 2 true (.tmp 24), none, []⟩,
  ⟨some 26, .idxs 2 (.tmp 14) (.tmp 15), none, []⟩,
  ⟨none, .store 2 (.tmp 26) (.tmp 21), none, []⟩,
  ⟨some 27, .idxs 2 (.tmp 16) (.tmp 17), none, []⟩,
  ⟨none, .store 2 (.tmp 27) (.tmp 25), none, []⟩]
def F.slices_Reverse_api_Rule_api_Rule.r2 : List DOp := [
  ⟨some 10, .mv (.tmp 2), none, []⟩,
  ⟨some 11, .bin .add (.tmp 10) (.const (.int .i64 1)), none, []⟩,
  ⟨some 12, .mv (.tmp 3), none, []⟩,
  ⟨some 13, .bin .sub (.tmp 12) (.const (.int .i64 1)), none, []⟩,
  ⟨some 2, .mv (.tmp 11), none, []⟩,
  ⟨some 3, .mv (.tmp 13), none, []⟩]
def F.slices_Reverse_api_Rule_api_Rule.L0 : ACode := .seq (.seq (.region F.slices_Reverse_api_Rule_api_Rule.r1) (.cond (.tmp 9) (.skip) (.exit 0))) (.seq (.block 1 (.draw F.slices_Reverse_api_Rule_api_Rule.r3 [])) (.region F.slices_Reverse_api_Rule_api_Rule.r2))
def F.slices_Reverse_api_Rule_api_Rule.c : ACode := .seq (.region F.slices_Reverse_api_Rule_api_Rule.r0) (.block 0 (.loop F.slices_Reverse_api_Rule_api_Rule.L0))
def F.slices_Reverse_api_Rule_api_Rule : AFunc := ⟨F.slices_Reverse_api_Rule_api_Rule.c, []⟩
/-! slices.Equal[[]bool,bool] -/
def F.slices_Equal_bool_bool.r0 : List DOp := [
  ⟨some 4, .mv (.const (.bool false)), none, []⟩]
def F.slices_Equal_bool_bool.r1 : List DOp := [
  ⟨some 6, .mv (.tmp 0), none, []⟩,
  ⟨some 7, .len (.tmp 6), none, []⟩,
  ⟨some 8, .mv (.tmp 1), none, []⟩,
  ⟨some 9, .len (.tmp 8), none, []⟩,
  ⟨some 10, .bin .neq (.tmp 7) (.tmp 9), none, []⟩]
def F.slices_Equal_bool_bool.r2 : List DOp := [
  ⟨some 4, .mv (.const (.bool false)), none, []⟩]
def F.slices_Equal_bool_bool.r3 : List DOp := [
  ⟨some 11, .mv (.tmp 0), none, []⟩,
  ⟨some 12, .len (.tmp 11), none, []⟩,
  ⟨some 13, .mv (.const (.int .i64 0)), none, []⟩]
def F.slices_Equal_bool_bool.r4 : List DOp := [
  ⟨some 14, .bin .lss (.tmp 13) (.tmp 12), none, []⟩]
def F.slices_Equal_bool_bool.r5 : List DOp := [
  ⟨some 15, .mv (.tmp 13), none, []⟩,
  ⟨some 5, .mv (.tmp 15), none, []⟩]
def F.slices_Equal_bool_bool.r6 : List DOp := [
  ⟨some 16, .mv (.tmp 0), none, []⟩,
  ⟨some 17, .mv (.tmp 5), none, []⟩,
  ⟨some 18, .idxs 1 (.tmp 16) (.tmp 17), none, []⟩,
  ⟨some 19, .load 1 false (.tmp 18), none, []⟩,
  ⟨some 20, .mv (.tmp 1), none, []⟩,
  ⟨some 21, .mv (.tmp 5), none, []⟩,
  ⟨some 22, .idxs 1 (.tmp 20) (.tmp 21), none, []⟩,
  ⟨some 23, .load 1 false (.tmp 22), none, []⟩,
  ⟨some 24, .eq true .bool (.tmp 19) (.tmp 23), none, []⟩]
def F.slices_Equal_bool_bool.r7 : List DOp := [
  ⟨some 4, .mv (.const (.bool false)), none, []⟩]
def F.slices_Equal_bool_bool.r8 : List DOp := [
  ⟨some 25, .bin .add (.tmp 13) (.const (.int .i64 1)), none, []⟩,
  ⟨some 13, .mv (.tmp 25), none, []⟩]
def F.slices_Equal_bool_bool.L0 : ACode := .seq (.region F.slices_Equal_bool_bool.r4) (.seq (.cond (.tmp 14) (.skip) (.exit 0)) (.seq (.block 1 (.seq (.region F.slices_Equal_bool_bool.r5) (.seq (.draw F.slices_Equal_bool_bool.r6 []) (.cond (.tmp 24) (.seq (.region F.slices_Equal_bool_bool.r7) (.ret)) (.skip))))) (.region F.slices_Equal_bool_bool.r8)))
def F.slices_Equal_bool_bool.r9 : List DOp := [
  ⟨some 4, .mv (.const (.bool true)), none, []⟩]
def F.slices_Equal_bool_bool.c : ACode := .seq (.region F.slices_Equal_bool_bool.r0) (.seq (.seq (.region F.slices_Equal_bool_bool.r1) (.cond (.tmp 10) (.seq (.region F.slices_Equal_bool_bool.r2) (.ret)) (.skip))) (.seq (.seq (.region F.slices_Equal_bool_bool.r3) (.block 0 (.loop F.slices_Equal_bool_bool.L0))) (.seq (.region F.slices_Equal_bool_bool.r9) (.ret))))
def F.slices_Equal_bool_bool : AFunc := ⟨F.slices_Equal_bool_bool.c, [.tmp 4]⟩
/-! slices.Contains[[]bool,bool] -/
def F.slices_Contains_bool_bool.r0 : List DOp := [
  ⟨some 4, .mv (.const (.bool false)), none, []⟩]
def F.slices_Contains_bool_bool.r1 : List DOp := [
  ⟨some 5, .mv (.tmp 0), none, []⟩,
  ⟨some 6, .mv (.tmp 1), none, []⟩,
  ⟨some 7, .call I.slices_Index_bool_bool [.tmp 5, .tmp 6], none, []⟩,
  ⟨some 8, .bin .geq (.tmp 7) (.const (.int .i64 0)), none, []⟩,
  ⟨some 4, .mv (.tmp 8), none, []⟩]
def F.slices_Contains_bool_bool.c : ACode := .seq (.region F.slices_Contains_bool_bool.r0) (.seq (.region F.slices_Contains_bool_bool.r1) (.ret))
def F.slices_Contains_bool_bool : AFunc := ⟨F.slices_Contains_bool_bool.c, [.tmp 4]⟩
/-! slices.Concat[[]parlance/api.Rule,parlance/api.Rule] -/
def F.slices_Concat_api_Rule_api_Rule.r0 : List DOp := [
  ⟨some 2, .mv (.const (.slice none 0 0)), none, []⟩]
def F.slices_Concat_api_Rule_api_Rule.r1 : List DOp := [
  ⟨some 3, .mv (.const (.int .i64 0)), none, []⟩]
def F.slices_Concat_api_Rule_api_Rule.r2 : List DOp := [
  ⟨some 9, .mv (.tmp 0), none, []⟩,
  ⟨some 10, .len (.tmp 9), none, []⟩,
  ⟨some 11, .mv (.const (.int .i64 0)), none, []⟩]
def F.slices_Concat_api_Rule_api_Rule.r3 : List DOp := [
  ⟨some 12, .bin .lss (.tmp 11) (.tmp 10), none, []⟩]
def F.slices_Concat_api_Rule_api_Rule.r4 : List DOp := [
  ⟨some 13, .idxs 1 (.tmp 9) (.tmp 11), none, []⟩,
  ⟨some 14, .load 1 false (.tmp 13), none, []⟩,
  ⟨some 5, .mv (.tmp 14), none, []⟩]
def F.slices_Concat_api_Rule_api_Rule.r5 : List DOp := [
  ⟨some 15, .mv (.tmp 3), none, []⟩,
  ⟨some 16, .mv (.tmp 5), none, []⟩,
  ⟨some 17, .len (.tmp 16), none, []⟩,
  ⟨some 18, .bin .add (.tmp 15) (.tmp 17), none, []⟩,
  ⟨some 3, .mv (.tmp 18), none, []⟩]
def F.slices_Concat_api_Rule_api_Rule.r6 : List DOp := [
  ⟨some 19, .mv (.tmp 3), none, []⟩,
  ⟨some 20, .bin .lss (.tmp 19) (.const (.int .i64 0)), none, []⟩]
def F.slices_Concat_api_Rule_api_Rule.r7 : List DOp := [
  ⟨some 21, .iface 9 (.const (.string ({ data := #[108, 101, 110, 32, 111, 117, 116, 32, 111, 102, 32, 114, 97, 110, 103, 101] }))), none, []⟩,
  ⟨none, .bad, none, []⟩]
def F.slices_Concat_api_Rule_api_Rule.r8 : List DOp := [
  ⟨some 22, .bin .add (.tmp 11) (.const (.int .i64 1)), none, []⟩,
  ⟨some 11, .mv (.tmp 22), none, []⟩]
def F.slices_Concat_api_Rule_api_Rule.L0 : ACode := .seq (.region F.slices_Concat_api_Rule_api_Rule.r3) (.seq (.cond (.tmp 12) (.skip) (.exit 0)) (.seq (.block 1 (.seq (.region F.slices_Concat_api_Rule_api_Rule.r4) (.seq (.region F.slices_Concat_api_Rule_api_Rule.r5) (.seq (.region F.slices_Concat_api_Rule_api_Rule.r6) (.cond (.tmp 20) (.region F.slices_Concat_api_Rule_api_Rule.r7) (.skip)))))) (.region F.slices_Concat_api_Rule_api_Rule.r8)))
def F.slices_Concat_api_Rule_api_Rule.r9 : List DOp := [
  ⟨some 23, .mv (.tmp 3), none, []⟩,
  ⟨some 24, .call I.slices_Grow_api_Rule_api_Rule [.const (.slice none 0 0), .tmp 23], none, []⟩,
  ⟨some 6, .mv (.tmp 24), none, []⟩]
def F.slices_Concat_api_Rule_api_Rule.r10 : List DOp := [
  ⟨some 25, .mv (.tmp 0), none, []⟩,
  ⟨some 26, .len (.tmp 25), none, []⟩,
  ⟨some 27, .mv (.const (.int .i64 0)), none, []⟩]
def F.slices_Concat_api_Rule_api_Rule.r11 : List DOp := [
  ⟨some 28, .bin .lss (.tmp 27) (.tmp 26), none, []⟩]
def F.slices_Concat_api_Rule_api_Rule.r12 : List DOp := [
  ⟨some 29, .idxs 1 (.tmp 25) (.tmp 27), none, []⟩,
  ⟨some 30, .load 1 false (.tmp 29), none, []⟩,
  ⟨some 8, .mv (.tmp 30), none, []⟩]
def F.slices_Concat_api_Rule_api_Rule.r13 : List DOp := [
  ⟨some 31, .mv (.tmp 6), none, []⟩,
  ⟨some 32, .mv (.tmp 8), none, []⟩,
  ⟨some 33, .append 2 32 (.tmp 31) (.tmp 32), none, []⟩,
  ⟨some 6, .mv (.tmp 33), none, []⟩]
def F.slices_Concat_api_Rule_api_Rule.r14 : List DOp := [
  ⟨some 34, .bin .add (.tmp 27) (.const (.int .i64 1)), none, []⟩,
  ⟨some 27, .mv (.tmp 34), none, []⟩]
def F.slices_Concat_api_Rule_api_Rule.L1 : ACode := .seq (.region F.slices_Concat_api_Rule_api_Rule.r11) (.seq (.cond (.tmp 28) (.skip) (.exit 2)) (.seq (.block 3 (.seq (.region F.slices_Concat_api_Rule_api_Rule.r12) (.region F.slices_Concat_api_Rule_api_Rule.r13))) (.region F.slices_Concat_api_Rule_api_Rule.r14)))
def F.slices_Concat_api_Rule_api_Rule.r15 : List DOp := [
  ⟨some 35, .mv (.tmp 6), none, []⟩,
  ⟨some 2, .mv (.tmp 35), none, []⟩]
def F.slices_Concat_api_Rule_api_Rule.c : ACode := .seq (.region F.slices_Concat_api_Rule_api_Rule.r0) (.seq (.region F.slices_Concat_api_Rule_api_Rule.r1) (.seq (.seq (.region F.slices_Concat_api_Rule_api_Rule.r2) (.block 0 (.loop F.slices_Concat_api_Rule_api_Rule.L0))) (.seq (.region F.slices_Concat_api_Rule_api_Rule.r9) (.seq (.seq (.region F.slices_Concat_api_Rule_api_Rule.r10) (.block 2 (.loop F.slices_Concat_api_Rule_api_Rule.L1))) (.seq (.region F.slices_Concat_api_Rule_api_Rule.r15) (.ret))))))
def F.slices_Concat_api_Rule_api_Rule : AFunc := ⟨F.slices_Concat_api_Rule_api_Rule.c, [.tmp 2]⟩
/-! slices.IndexFunc[[]int,int] -/
def F.slices_IndexFunc_int_int.r0 : List DOp := [
  ⟨some 4, .mv (.const (.int .i64 0)), none, []⟩]
def F.slices_IndexFunc_int_int.r1 : List DOp := [
  ⟨some 6, .mv (.tmp 0), none, []⟩,
  ⟨some 7, .len (.tmp 6), none, []⟩,
  ⟨some 8, .mv (.const (.int .i64 0)), none, []⟩]
def F.slices_IndexFunc_int_int.r2 : List DOp := [
  ⟨some 9, .bin .lss (.tmp 8) (.tmp 7), none, []⟩]
def F.slices_IndexFunc_int_int.r3 : List DOp := [
  ⟨some 10, .mv (.tmp 8), none, []⟩,
  ⟨some 5, .mv (.tmp 10), none, []⟩]
def F.slices_IndexFunc_int_int.r4 : List DOp := [
  ⟨some 11, .mv (.tmp 1), none, []⟩,
  ⟨some 12, .mv (.tmp 0), none, []⟩,
  ⟨some 13, .mv (.tmp 5), none, []⟩,
  ⟨some 14, .idxs 1 (.tmp 12) (.tmp 13), none, []⟩,
  ⟨some 15, .load 1 false (.tmp 14), none, []⟩,
  ⟨some 16, .callv (.tmp 11) [.tmp 15], none, []⟩]
def F.slices_IndexFunc_int_int.r5 : List DOp := [
  ⟨some 17, .mv (.tmp 5), none, []⟩,
  ⟨some 4, .mv (.tmp 17), none, []⟩]
def F.slices_IndexFunc_int_int.r6 : List DOp := [
  ⟨some 18, .bin .add (.tmp 8) (.const (.int .i64 1)), none, []⟩,
  ⟨some 8, .mv (.tmp 18), none, []⟩]
def F.slices_IndexFunc_int_int.L0 : ACode := .seq (.region F.slices_IndexFunc_int_int.r2) (.seq (.cond (.tmp 9) (.skip) (.exit 0)) (.seq (.block 1 (.seq (.region F.slices_IndexFunc_int_int.r3) (.seq (.region F.slices_IndexFunc_int_int.r4) (.cond (.tmp 16) (.seq (.region F.slices_IndexFunc_int_int.r5) (.ret)) (.skip))))) (.region F.slices_IndexFunc_int_int.r6)))
def F.slices_IndexFunc_int_int.r7 : List DOp := [
  ⟨some 4, .mv (.const (.int .i64 (-1))), none, []⟩]
def F.slices_IndexFunc_int_int.c : ACode := .seq (.region F.slices_IndexFunc_int_int.r0) (.seq (.seq (.region F.slices_IndexFunc_int_int.r1) (.block 0 (.loop F.slices_IndexFunc_int_int.L0))) (.seq (.region F.slices_IndexFunc_int_int.r7) (.ret)))
def F.slices_IndexFunc_int_int : AFunc := ⟨F.slices_IndexFunc_int_int.c, [.tmp 4]⟩
/-! slices.ContainsFunc[[]parlance/api.Rule,parlance/api.Rule] -/
def F.slices_ContainsFunc_api_Rule_api_Rule.r0 : List DOp := [
  ⟨some 4, .mv (.const (.bool false)), none, []⟩]
def F.slices_ContainsFunc_api_Rule_api_Rule.r1 : List DOp := [
  ⟨some 5, .mv (.tmp 0), none, []⟩,
  ⟨some 6, .mv (.tmp 1), none, []⟩,
  ⟨some 7, .call I.slices_IndexFunc_api_Rule_api_Rule [.tmp 5, .tmp 6], none, []⟩,
  ⟨some 8, .bin .geq (.tmp 7) (.const (.int .i64 0)), none, []⟩,
  ⟨some 4, .mv (.tmp 8), none, []⟩]
def F.slices_ContainsFunc_api_Rule_api_Rule.c : ACode := .seq (.region F.slices_ContainsFunc_api_Rule_api_Rule.r0) (.seq (.region F.slices_ContainsFunc_api_Rule_api_Rule.r1) (.ret))
def F.slices_ContainsFunc_api_Rule_api_Rule : AFunc := ⟨F.slices_ContainsFunc_api_Rule_api_Rule.c, [.tmp 4]⟩
/-! slices.Equal[[]parlance/api.Sym,parlance/api.Sym] -/
def F.slices_Equal_api_Sym_api_Sym.r0 : List DOp := [
  ⟨some 4, .mv (.const (.bool false)), none, []⟩]
def F.slices_Equal_api_Sym_api_Sym.r1 : List DOp := [
  ⟨some 6, .mv (.tmp 0), none, []⟩,
  ⟨some 7, .len (.tmp 6), none, []⟩,
  ⟨some 8, .mv (.tmp 1), none, []⟩,
  ⟨some 9, .len (.tmp 8), none, []⟩,
  ⟨some 10, .bin .neq (.tmp 7) (.tmp 9), none, []⟩]
def F.slices_Equal_api_Sym_api_Sym.r2 : List DOp := [
  ⟨some 4, .mv (.const (.bool false)), none, []⟩]
def F.slices_Equal_api_Sym_api_Sym.r3 : List DOp := [
  ⟨some 11, .mv (.tmp 0), none, []⟩,
  ⟨some 12, .len (.tmp 11), none, []⟩,
  ⟨some 13, .mv (.const (.int .i64 0)), none, []⟩]
def F.slices_Equal_api_Sym_api_Sym.r4 : List DOp := [
  ⟨some 14, .bin .lss (.tmp 13) (.tmp 12), none, []⟩]
def F.slices_Equal_api_Sym_api_Sym.r5 : List DOp := [
  ⟨some 15, .mv (.tmp 13), none, []⟩,
  ⟨some 5, .mv (.tmp 15), none, []⟩]
def F.slices_Equal_api_Sym_api_Sym.r6 : List DOp := [
  ⟨some 16, .mv (.tmp 0), none, []⟩,
  ⟨some 17, .mv (.tmp 5), none, []⟩,
  ⟨some 18, .idxs 2 (.tmp 16) (.tmp 17), none, []⟩,
  ⟨some 19, .load 2 true (.tmp 18), none, []⟩,
  ⟨some 20, .mv (.tmp 1), none, []⟩,
  ⟨some 21, .mv (.tmp 5), none, []⟩,
  ⟨some 22, .idxs 2 (.tmp 20) (.tmp 21), none, []⟩,
  ⟨some 23, .load 2 true (.tmp 22), none, []⟩,
  ⟨some 24, .eq true (.struct [(0, .bool), (1, .int)]) (.tmp 19) (.tmp 23), none, []⟩]
def F.slices_Equal_api_Sym_api_Sym.r7 : List DOp := [
  ⟨some 4, .mv (.const (.bool false)), none, []⟩]
def F.slices_Equal_api_Sym_api_Sym.r8 : List DOp := [
  ⟨some 25, .bin .add (.tmp 13) (.const (.int .i64 1)), none, []⟩,
  ⟨some 13, .mv (.tmp 25), none, []⟩]
def F.slices_Equal_api_Sym_api_Sym.L0 : ACode := .seq (.region F.slices_Equal_api_Sym_api_Sym.r4) (.seq (.cond (.tmp 14) (.skip) (.exit 0)) (.seq (.block 1 (.seq (.region F.slices_Equal_api_Sym_api_Sym.r5) (.seq (.draw F.slices_Equal_api_Sym_api_Sym.r6 []) (.cond (.tmp 24) (.seq (.region F.slices_Equal_api_Sym_api_Sym.r7) (.ret)) (.skip))))) (.region F.slices_Equal_api_Sym_api_Sym.r8)))
def F.slices_Equal_api_Sym_api_Sym.r9 : List DOp := [
  ⟨some 4, .mv (.const (.bool true)), none, []⟩]
def F.slices_Equal_api_Sym_api_Sym.c : ACode := .seq (.region F.slices_Equal_api_Sym_api_Sym.r0) (.seq (.seq (.region F.slices_Equal_api_Sym_api_Sym.r1) (.cond (.tmp 10) (.seq (.region F.slices_Equal_api_Sym_api_Sym.r2) (.ret)) (.skip))) (.seq (.seq (.region F.slices_Equal_api_Sym_api_Sym.r3) (.block 0 (.loop F.slices_Equal_api_Sym_api_Sym.L0))) (.seq (.region F.slices_Equal_api_Sym_api_Sym.r9) (.ret))))
def F.slices_Equal_api_Sym_api_Sym : AFunc := ⟨F.slices_Equal_api_Sym_api_Sym.c, [.tmp 4]⟩
/-! slices.Index[[]bool,bool] -/
def F.slices_Index_bool_bool.r0 : List DOp := [
  ⟨some 4, .mv (.const (.int .i64 0)), none, []⟩]
def F.slices_Index_bool_bool.r1 : List DOp := [
  ⟨some 6, .mv (.tmp 0), none, []⟩,
  ⟨some 7, .len (.tmp 6), none, []⟩,
  ⟨some 8, .mv (.const (.int .i64 0)), none, []⟩]
def F.slices_Index_bool_bool.r2 : List DOp := [
  ⟨some 9, .bin .lss (.tmp 8) (.tmp 7), none, []⟩]
def F.slices_Index_bool_bool.r3 : List DOp := [
  ⟨some 10, .mv (.tmp 8), none, []⟩,
  ⟨some 5, .mv (.tmp 10), none, []⟩]
def F.slices_Index_bool_bool.r4 : List DOp := [
  ⟨some 11, .mv (.tmp 1), none, []⟩,
  ⟨some 12, .mv (.tmp 0), none, []⟩,
  ⟨some 13, .mv (.tmp 5), none, []⟩,
  ⟨some 14, .idxs 1 (.tmp 12) (.tmp 13), none, []⟩,
  ⟨some 15, .load 1 false (.tmp 14), none, []⟩,
  ⟨some 16, .eq false .bool (.tmp 11) (.tmp 15), none, []⟩]
def F.slices_Index_bool_bool.r5 : List DOp := [
  ⟨some 17, .mv (.tmp 5), none, []⟩,
  ⟨some 4, .mv (.tmp 17), none, []⟩]
def F.slices_Index_bool_bool.r6 : List DOp := [
  ⟨some 18, .bin .add (.tmp 8) (.const (.int .i64 1)), none, []⟩,
  ⟨some 8, .mv (.tmp 18), none, []⟩]
def F.slices_Index_bool_bool.L0 : ACode := .seq (.region F.slices_Index_bool_bool.r2) (.seq (.cond (.tmp 9) (.skip) (.exit 0)) (.seq (.block 1 (.seq (.region F.slices_Index_bool_bool.r3) (.seq (.region F.slices_Index_bool_bool.r4) (.cond (.tmp 16) (.seq (.region F.slices_Index_bool_bool.r5) (.ret)) (.skip))))) (.region F.slices_Index_bool_bool.r6)))
def F.slices_Index_bool_bool.r7 : List DOp := [
  ⟨some 4, .mv (.const (.int .i64 (-1))), none, []⟩]
def F.slices_Index_bool_bool.c : ACode := .seq (.region F.slices_Index_bool_bool.r0) (.seq (.seq (.region F.slices_Index_bool_bool.r1) (.block 0 (.loop F.slices_Index_bool_bool.L0))) (.seq (.region F.slices_Index_bool_bool.r7) (.ret)))
def F.slices_Index_bool_bool : AFunc := ⟨F.slices_Index_bool_bool.c, [.tmp 4]⟩
/-! slices.Clone[[]parlance/api.Sym,parlance/api.Sym] -/
def F.slices_Clone_api_Sym_api_Sym.r0 : List DOp := [
  ⟨some 2, .mv (.const (.slice none 0 0)), none, []⟩]
def F.slices_Clone_api_Sym_api_Sym.r1 : List DOp := [
  ⟨some 3, .mv (.tmp 0), none, []⟩,
  ⟨some 4, .eq false .slice (.tmp 3) (.const (.slice none 0 0)), none, []⟩]
def F.slices_Clone_api_Sym_api_Sym.r2 : List DOp := [
  ⟨some 2, .mv (.const (.slice none 0 0)), none, []⟩]
def F.slices_Clone_api_Sym_api_Sym.r3 : List DOp := [
  ⟨some 5, .bslice 2 0 [] [], none, []⟩,
  ⟨some 6, .mv (.tmp 0), none, []⟩,
  ⟨some 7, .append 2 16 (.tmp 5) (.tmp 6), none, []⟩,
  ⟨some 2, .mv (.tmp 7), none, []⟩]
def F.slices_Clone_api_Sym_api_Sym.c : ACode := .seq (.region F.slices_Clone_api_Sym_api_Sym.r0) (.seq (.seq (.region F.slices_Clone_api_Sym_api_Sym.r1) (.cond (.tmp 4) (.seq (.region F.slices_Clone_api_Sym_api_Sym.r2) (.ret)) (.skip))) (.seq (.region F.slices_Clone_api_Sym_api_Sym.r3) (.ret)))
def F.slices_Clone_api_Sym_api_Sym : AFunc := ⟨F.slices_Clone_api_Sym_api_Sym.c, [.tmp 2]⟩
/-! slices.ContainsFunc[[]int,int] -/
def F.slices_ContainsFunc_int_int.r0 : List DOp := [
  ⟨some 4, .mv (.const (.bool false)), none, []⟩]
def F.slices_ContainsFunc_int_int.r1 : List DOp := [
  ⟨some 5, .mv (.tmp 0), none, []⟩,
  ⟨some 6, .mv (.tmp 1), none, []⟩,
  ⟨some 7, .call I.slices_IndexFunc_int_int [.tmp 5, .tmp 6], none, []⟩,
  ⟨some 8, .bin .geq (.tmp 7) (.const (.int .i64 0)), none, []⟩,
  ⟨some 4, .mv (.tmp 8), none, []⟩]
def F.slices_ContainsFunc_int_int.c : ACode := .seq (.region F.slices_ContainsFunc_int_int.r0) (.seq (.region F.slices_ContainsFunc_int_int.r1) (.ret))
def F.slices_ContainsFunc_int_int : AFunc := ⟨F.slices_ContainsFunc_int_int.c, [.tmp 4]⟩
/-! slices.DeleteFunc[[][]int,[]int] -/
def F.slices_DeleteFunc_int_int.r0 : List DOp := [
  ⟨some 4, .mv (.const (.slice none 0 0)), none, []⟩]
def F.slices_DeleteFunc_int_int.r1 : List DOp := [
  ⟨some 8, .mv (.tmp 0), none, []⟩,
  ⟨some 9, .mv (.tmp 1), none, []⟩,
  ⟨some 10, .call I.slices_IndexFunc_int_int_105 [.tmp 8, .tmp 9], none, []⟩,
  ⟨some 5, .mv (.tmp 10), none, []⟩]
def F.slices_DeleteFunc_int_int.r2 : List DOp := [
  ⟨some 11, .mv (.tmp 5), none, []⟩,
  ⟨some 12, .bin .eql (.tmp 11) (.const (.int .i64 (-1))), none, []⟩]
def F.slices_DeleteFunc_int_int.r3 : List DOp := [
  ⟨some 13, .mv (.tmp 0), none, []⟩,
  ⟨some 4, .mv (.tmp 13), none, []⟩]
def F.slices_DeleteFunc_int_int.r4 : List DOp := [
  ⟨some 14, .mv (.tmp 5), none, []⟩,
  ⟨some 15, .bin .add (.tmp 14) (.const (.int .i64 1)), none, []⟩,
  ⟨some 6, .mv (.tmp 15), none, []⟩]
def F.slices_DeleteFunc_int_int.r5 : List DOp := [
  ⟨some 16, .mv (.tmp 6), none, []⟩,
  ⟨some 17, .mv (.tmp 0), none, []⟩,
  ⟨some 18, .len (.tmp 17), none, []⟩,
  ⟨some 19, .bin .lss (.tmp 16) (.tmp 18), none, []⟩]
def F.slices_DeleteFunc_int_int.r7 : List DOp := [
  ⟨some 22, .mv (.tmp 0), none, []⟩,
  ⟨some 23, .mv (.tmp 6), none, []⟩,
  ⟨some 24, .idxs 1 (.tmp 22) (.tmp 23), none, []⟩,
  ⟨some 25, .load 1 false (.tmp 24), none, []⟩,
  ⟨some 7, .mv (.tmp 25), none, []⟩]
def F.slices_DeleteFunc_int_int.r8 : List DOp := [
  ⟨some 26, .mv (.tmp 1), none, []⟩,
  ⟨some 27, .mv (.tmp 7), none, []⟩,
  ⟨some 28, .callv (.tmp 26) [.tmp 27], none, []⟩,
  ⟨some 29, .un .not (.tmp 28), none, []⟩]
def F.slices_DeleteFunc_int_int.r9 : List DOp := [
  ⟨some 30, .mv (.tmp 0), none, []⟩,
  ⟨some 31, .mv (.tmp 5), none, []⟩,
  ⟨some 32, .mv (.tmp 7), none, []⟩,
  ⟨some 33, .idxs 1 (.tmp 30) (.tmp 31), none, []⟩,
  ⟨none, .store 1 (.tmp 33) (.tmp 32), none, []⟩]
def F.slices_DeleteFunc_int_int.r10 : List DOp := [
  ⟨some 34, .mv (.tmp 5), none, []⟩,
  ⟨some 35, .bin .add (.tmp 34) (.const (.int .i64 1)), none, []⟩,
  ⟨some 5, .mv (.tmp 35), none, []⟩]
def F.slices_DeleteFunc_int_int.r6 : List DOp := [
  ⟨some 20, .mv (.tmp 6), none, []⟩,
  ⟨some 21, .bin .add (.tmp 20) (.const (.int .i64 1)), none, []⟩,
  ⟨some 6, .mv (.tmp 21), none, []⟩]
def F.slices_DeleteFunc_int_int.L0 : ACode := .seq (.seq (.region F.slices_DeleteFunc_int_int.r5) (.cond (.tmp 19) (.skip) (.exit 0))) (.seq (.block 1 (.seq (.region F.slices_DeleteFunc_int_int.r7) (.seq (.region F.slices_DeleteFunc_int_int.r8) (.cond (.tmp 29) (.seq (.region F.slices_DeleteFunc_int_int.r9) (.region F.slices_DeleteFunc_int_int.r10)) (.skip))))) (.region F.slices_DeleteFunc_int_int.r6))
def F.slices_DeleteFunc_int_int.r11 : List DOp := [
  ⟨some 36, .mv (.tmp 0), none, []⟩,
  ⟨some 37, .mv (.tmp 5), none, []⟩,
  ⟨some 38, .slice 1 (.tmp 36) (some (.tmp 37)) none, none, []⟩,
  ⟨none, .bad, none, []⟩]
def F.slices_DeleteFunc_int_int.r12 : List DOp := [
  ⟨some 39, .mv (.tmp 0), none, []⟩,
  ⟨some 40, .mv (.tmp 5), none, []⟩,
  ⟨some 41, .slice 1 (.tmp 39) none (some (.tmp 40)), none, []⟩,
  ⟨some 4, .mv (.tmp 41), none, []⟩]
def F.slices_DeleteFunc_int_int.c : ACode := .seq (.region F.slices_DeleteFunc_int_int.r0) (.seq (.region F.slices_DeleteFunc_int_int.r1) (.seq (.seq (.region F.slices_DeleteFunc_int_int.r2) (.cond (.tmp 12) (.seq (.region F.slices_DeleteFunc_int_int.r3) (.ret)) (.skip))) (.seq (.seq (.region F.slices_DeleteFunc_int_int.r4) (.block 0 (.loop F.slices_DeleteFunc_int_int.L0))) (.seq (.region F.slices_DeleteFunc_int_int.r11) (.seq (.region F.slices_DeleteFunc_int_int.r12) (.ret))))))
def F.slices_DeleteFunc_int_int : AFunc := ⟨F.slices_DeleteFunc_int_int.c, [.tmp 4]⟩
/-! slices.Grow[[]parlance/api.Rule,parlance/api.Rule] -/
def F.slices_Grow_api_Rule_api_Rule.r0 : List DOp := [
  ⟨some 4, .mv (.const (.slice none 0 0)), none, []⟩]
def F.slices_Grow_api_Rule_api_Rule.r1 : List DOp := [
  ⟨some 5, .mv (.tmp 1), none, []⟩,
  ⟨some 6, .bin .lss (.tmp 5) (.const (.int .i64 0)), none, []⟩]
def F.slices_Grow_api_Rule_api_Rule.r2 : List DOp := [
  ⟨some 7, .iface 9 (.const (.string ({ data := #[99, 97, 110, 110, 111, 116, 32, 98, 101, 32, 110, 101, 103, 97, 116, 105, 118, 101] }))), none, []⟩,
  ⟨none, .bad, none, []⟩]
def F.slices_Grow_api_Rule_api_Rule.r3 : List DOp := [
  ⟨some 8, .mv (.tmp 1), none, []⟩,
  ⟨some 9, .mv (.tmp 0), none, []⟩,
  ⟨some 10, .bad, none, []⟩,
  ⟨some 11, .mv (.tmp 0), none, []⟩,
  ⟨some 12, .len (.tmp 11), none, []⟩,
  ⟨some 13, .bin .sub (.tmp 10) (.tmp 12), none, []⟩,
  ⟨some 14, .bin .sub (.tmp 8) (.tmp 13), none, []⟩,
  ⟨some 1, .mv (.tmp 14), none, []⟩]
def F.slices_Grow_api_Rule_api_Rule.r4 : List DOp := [
  ⟨some 15, .mv (.tmp 1), none, []⟩,
  ⟨some 16, .bin .gtr (.tmp 15) (.const (.int .i64 0)), none, []⟩]
def F.slices_Grow_api_Rule_api_Rule.r5 : List DOp := [
  ⟨some 17, .mv (.tmp 0), none, []⟩,
  ⟨some 18, .mv (.tmp 0), none, []⟩,
  ⟨some 19, .bad, none, []⟩,
  ⟨some 20, .slice 2 (.tmp 17) none (some (.tmp 19)), none, []⟩,
  ⟨some 21, .mv (.tmp 1), none, []⟩,
  ⟨some 22, .bad, none, []⟩,
  ⟨some 23, .mv (.tmp 0), none, []⟩,
  ⟨some 24, .len (.tmp 23), none, []⟩,
  ⟨some 25, .slice 2 (.tmp 22) none (some (.tmp 24)), none, []⟩,
  ⟨some 0, .mv (.tmp 25), none, []⟩]
def F.slices_Grow_api_Rule_api_Rule.r6 : List DOp := [
  ⟨some 26, .mv (.tmp 0), none, []⟩,
  ⟨some 4, .mv (.tmp 26), none, []⟩]
def F.slices_Grow_api_Rule_api_Rule.c : ACode := .seq (.region F.slices_Grow_api_Rule_api_Rule.r0) (.seq (.seq (.region F.slices_Grow_api_Rule_api_Rule.r1) (.cond (.tmp 6) (.region F.slices_Grow_api_Rule_api_Rule.r2) (.skip))) (.seq (.seq (.region F.slices_Grow_api_Rule_api_Rule.r3) (.seq (.region F.slices_Grow_api_Rule_api_Rule.r4) (.cond (.tmp 16) (.region F.slices_Grow_api_Rule_api_Rule.r5) (.skip)))) (.seq (.region F.slices_Grow_api_Rule_api_Rule.r6) (.ret))))
def F.slices_Grow_api_Rule_api_Rule : AFunc := ⟨F.slices_Grow_api_Rule_api_Rule.c, [.tmp 4]⟩
/-! slices.Clone[[]parlance/api.Tree,parlance/api.Tree] -/
def F.slices_Clone_api_Tree_api_Tree.r0 : List DOp := [
  ⟨some 2, .mv (.const (.slice none 0 0)), none, []⟩]
def F.slices_Clone_api_Tree_api_Tree.r1 : List DOp := [
  ⟨some 3, .mv (.tmp 0), none, []⟩,
  ⟨some 4, .eq false .slice (.tmp 3) (.const (.slice none 0 0)), none, []⟩]
def F.slices_Clone_api_Tree_api_Tree.r2 : List DOp := [
  ⟨some 2, .mv (.const (.slice none 0 0)), none, []⟩]
def F.slices_Clone_api_Tree_api_Tree.r3 : List DOp := [
  ⟨some 5, .bslice 3 0 [] [], none, []⟩,
  ⟨some 6, .mv (.tmp 0), none, []⟩,
  ⟨some 7, .append 3 40 (.tmp 5) (.tmp 6), none, []⟩,
  ⟨some 2, .mv (.tmp 7), none, []⟩]
def F.slices_Clone_api_Tree_api_Tree.c : ACode := .seq (.region F.slices_Clone_api_Tree_api_Tree.r0) (.seq (.seq (.region F.slices_Clone_api_Tree_api_Tree.r1) (.cond (.tmp 4) (.seq (.region F.slices_Clone_api_Tree_api_Tree.r2) (.ret)) (.skip))) (.seq (.region F.slices_Clone_api_Tree_api_Tree.r3) (.ret)))
def F.slices_Clone_api_Tree_api_Tree : AFunc := ⟨F.slices_Clone_api_Tree_api_Tree.c, [.tmp 2]⟩
/-! slices.IndexFunc[[]parlance/api.Rule,parlance/api.Rule] -/
def F.slices_IndexFunc_api_Rule_api_Rule.r0 : List DOp := [
  ⟨some 4, .mv (.const (.int .i64 0)), none, []⟩]
def F.slices_IndexFunc_api_Rule_api_Rule.r1 : List DOp := [
  ⟨some 6, .mv (.tmp 0), none, []⟩,
  ⟨some 7, .len (.tmp 6), none, []⟩,
  ⟨some 8, .mv (.const (.int .i64 0)), none, []⟩]
def F.slices_IndexFunc_api_Rule_api_Rule.r2 : List DOp := [
  ⟨some 9, .bin .lss (.tmp 8) (.tmp 7), none, []⟩]
def F.slices_IndexFunc_api_Rule_api_Rule.r3 : List DOp := [
  ⟨some 10, .mv (.tmp 8), none, []⟩,
  ⟨some 5, .mv (.tmp 10), none, []⟩]
def F.slices_IndexFunc_api_Rule_api_Rule.r4 : List DOp := [
  ⟨some 11, .mv (.tmp 1), none, []⟩,
  ⟨some 12, .mv (.tmp 0), none, []⟩,
  ⟨some 13, .mv (.tmp 5), none, []⟩,
  ⟨some 14, .idxs 2 (.tmp 12) (.tmp 13), none, []⟩,
  ⟨some 15, .load 2 true (.tmp 14), none, []⟩,
  ⟨some 16, .callv (.tmp 11) [.tmp 15], none, []⟩]
def F.slices_IndexFunc_api_Rule_api_Rule.r5 : List DOp := [
  ⟨some 17, .mv (.tmp 5), none, []⟩,
  ⟨some 4, .mv (.tmp 17), none, []⟩]
def F.slices_IndexFunc_api_Rule_api_Rule.r6 : List DOp := [
  ⟨some 18, .bin .add (.tmp 8) (.const (.int .i64 1)), none, []⟩,
  ⟨some 8, .mv (.tmp 18), none, []⟩]
def F.slices_IndexFunc_api_Rule_api_Rule.L0 : ACode := .seq (.region F.slices_IndexFunc_api_Rule_api_Rule.r2) (.seq (.cond (.tmp 9) (.skip) (.exit 0)) (.seq (.block 1 (.seq (.region F.slices_IndexFunc_api_Rule_api_Rule.r3) (.seq (.region F.slices_IndexFunc_api_Rule_api_Rule.r4) (.cond (.tmp 16) (.seq (.region F.slices_IndexFunc_api_Rule_api_Rule.r5) (.ret)) (.skip))))) (.region F.slices_IndexFunc_api_Rule_api_Rule.r6)))
def F.slices_IndexFunc_api_Rule_api_Rule.r7 : List DOp := [
  ⟨some 4, .mv (.const (.int .i64 (-1))), none, []⟩]
def F.slices_IndexFunc_api_Rule_api_Rule.c : ACode := .seq (.region F.slices_IndexFunc_api_Rule_api_Rule.r0) (.seq (.seq (.region F.slices_IndexFunc_api_Rule_api_Rule.r1) (.block 0 (.loop F.slices_IndexFunc_api_Rule_api_Rule.L0))) (.seq (.region F.slices_IndexFunc_api_Rule_api_Rule.r7) (.ret)))
def F.slices_IndexFunc_api_Rule_api_Rule : AFunc := ⟨F.slices_IndexFunc_api_Rule_api_Rule.c, [.tmp 4]⟩
/-! slices.Concat[[][]int,[]int] -/
def F.slices_Concat_int_int.r0 : List DOp := [
  ⟨some 2, .mv (.const (.slice none 0 0)), none, []⟩]
def F.slices_Concat_int_int.r1 : List DOp := [
  ⟨some 3, .mv (.const (.int .i64 0)), none, []⟩]
def F.slices_Concat_int_int.r2 : List DOp := [
  ⟨some 9, .mv (.tmp 0), none, []⟩,
  ⟨some 10, .len (.tmp 9), none, []⟩,
  ⟨some 11, .mv (.const (.int .i64 0)), none, []⟩]
def F.slices_Concat_int_int.r3 : List DOp := [
  ⟨some 12, .bin .lss (.tmp 11) (.tmp 10), none, []⟩]
def F.slices_Concat_int_int.r4 : List DOp := [
  ⟨some 13, .idxs 1 (.tmp 9) (.tmp 11), none, []⟩,
  ⟨some 14, .load 1 false (.tmp 13), none, []⟩,
  ⟨some 5, .mv (.tmp 14), none, []⟩]
def F.slices_Concat_int_int.r5 : List DOp := [
  ⟨some 15, .mv (.tmp 3), none, []⟩,
  ⟨some 16, .mv (.tmp 5), none, []⟩,
  ⟨some 17, .len (.tmp 16), none, []⟩,
  ⟨some 18, .bin .add (.tmp 15) (.tmp 17), none, []⟩,
  ⟨some 3, .mv (.tmp 18), none, []⟩]
def F.slices_Concat_int_int.r6 : List DOp := [
  ⟨some 19, .mv (.tmp 3), none, []⟩,
  ⟨some 20, .bin .lss (.tmp 19) (.const (.int .i64 0)), none, []⟩]
def F.slices_Concat_int_int.r7 : List DOp := [
  ⟨some 21, .iface 9 (.const (.string ({ data := #[108, 101, 110, 32, 111, 117, 116, 32, 111, 102, 32, 114, 97, 110, 103, 101] }))), none, []⟩,
  ⟨none, .bad, none, []⟩]
def F.slices_Concat_int_int.r8 : List DOp := [
  ⟨some 22, .bin .add (.tmp 11) (.const (.int .i64 1)), none, []⟩,
  ⟨some 11, .mv (.tmp 22), none, []⟩]
def F.slices_Concat_int_int.L0 : ACode := .seq (.region F.slices_Concat_int_int.r3) (.seq (.cond (.tmp 12) (.skip) (.exit 0)) (.seq (.block 1 (.seq (.region F.slices_Concat_int_int.r4) (.seq (.region F.slices_Concat_int_int.r5) (.seq (.region F.slices_Concat_int_int.r6) (.cond (.tmp 20) (.region F.slices_Concat_int_int.r7) (.skip)))))) (.region F.slices_Concat_int_int.r8)))
def F.slices_Concat_int_int.r9 : List DOp := [
  ⟨some 23, .mv (.tmp 3), none, []⟩,
  ⟨some 24, .call I.slices_Grow_int_int [.const (.slice none 0 0), .tmp 23], none, []⟩,
  ⟨some 6, .mv (.tmp 24), none, []⟩]
def F.slices_Concat_int_int.r10 : List DOp := [
  ⟨some 25, .mv (.tmp 0), none, []⟩,
  ⟨some 26, .len (.tmp 25), none, []⟩,
  ⟨some 27, .mv (.const (.int .i64 0)), none, []⟩]
def F.slices_Concat_int_int.r11 : List DOp := [
  ⟨some 28, .bin .lss (.tmp 27) (.tmp 26), none, []⟩]
def F.slices_Concat_int_int.r12 : List DOp := [
  ⟨some 29, .idxs 1 (.tmp 25) (.tmp 27), none, []⟩,
  ⟨some 30, .load 1 false (.tmp 29), none, []⟩,
  ⟨some 8, .mv (.tmp 30), none, []⟩]
def F.slices_Concat_int_int.r13 : List DOp := [
  ⟨some 31, .mv (.tmp 6), none, []⟩,
  ⟨some 32, .mv (.tmp 8), none, []⟩,
  ⟨some 33, .append 1 24 (.tmp 31) (.tmp 32), none, []⟩,
  ⟨some 6, .mv (.tmp 33), none, []⟩]
def F.slices_Concat_int_int.r14 : List DOp := [
  ⟨some 34, .bin .add (.tmp 27) (.const (.int .i64 1)), none, []⟩,
  ⟨some 27, .mv (.tmp 34), none, []⟩]
def F.slices_Concat_int_int.L1 : ACode := .seq (.region F.slices_Concat_int_int.r11) (.seq (.cond (.tmp 28) (.skip) (.exit 2)) (.seq (.block 3 (.seq (.region F.slices_Concat_int_int.r12) (.region F.slices_Concat_int_int.r13))) (.region F.slices_Concat_int_int.r14)))
def F.slices_Concat_int_int.r15 : List DOp := [
  ⟨some 35, .mv (.tmp 6), none, []⟩,
  ⟨some 2, .mv (.tmp 35), none, []⟩]
def F.slices_Concat_int_int.c : ACode := .seq (.region F.slices_Concat_int_int.r0) (.seq (.region F.slices_Concat_int_int.r1) (.seq (.seq (.region F.slices_Concat_int_int.r2) (.block 0 (.loop F.slices_Concat_int_int.L0))) (.seq (.region F.slices_Concat_int_int.r9) (.seq (.seq (.region F.slices_Concat_int_int.r10) (.block 2 (.loop F.slices_Concat_int_int.L1))) (.seq (.region F.slices_Concat_int_int.r15) (.ret))))))
def F.slices_Concat_int_int : AFunc := ⟨F.slices_Concat_int_int.c, [.tmp 2]⟩
/-! slices.ContainsFunc[[][]int,[]int] -/
def F.slices_ContainsFunc_int_int_99.r0 : List DOp := [
  ⟨some 4, .mv (.const (.bool false)), none, []⟩]
def F.slices_ContainsFunc_int_int_99.r1 : List DOp := [
  ⟨some 5, .mv (.tmp 0), none, []⟩,
  ⟨some 6, .mv (.tmp 1), none, []⟩,
  ⟨some 7, .call I.slices_IndexFunc_int_int_105 [.tmp 5, .tmp 6], none, []⟩,
  ⟨some 8, .bin .geq (.tmp 7) (.const (.int .i64 0)), none, []⟩,
  ⟨some 4, .mv (.tmp 8), none, []⟩]
def F.slices_ContainsFunc_int_int_99.c : ACode := .seq (.region F.slices_ContainsFunc_int_int_99.r0) (.seq (.region F.slices_ContainsFunc_int_int_99.r1) (.ret))
def F.slices_ContainsFunc_int_int_99 : AFunc := ⟨F.slices_ContainsFunc_int_int_99.c, [.tmp 4]⟩
/-! slices.Clone[[]int,int] -/
def F.slices_Clone_int_int.r0 : List DOp := [
  ⟨some 2, .mv (.const (.slice none 0 0)), none, []⟩]
def F.slices_Clone_int_int.r1 : List DOp := [
  ⟨some 3, .mv (.tmp 0), none, []⟩,
  ⟨some 4, .eq false .slice (.tmp 3) (.const (.slice none 0 0)), none, []⟩]
def F.slices_Clone_int_int.r2 : List DOp := [
  ⟨some 2, .mv (.const (.slice none 0 0)), none, []⟩]
def F.slices_Clone_int_int.r3 : List DOp := [
  ⟨some 5, .bslice 1 0 [] [], none, []⟩,
  ⟨some 6, .mv (.tmp 0), none, []⟩,
  ⟨some 7, .append 1 8 (.tmp 5) (.tmp 6), none, []⟩,
  ⟨some 2, .mv (.tmp 7), none, []⟩]
def F.slices_Clone_int_int.c : ACode := .seq (.region F.slices_Clone_int_int.r0) (.seq (.seq (.region F.slices_Clone_int_int.r1) (.cond (.tmp 4) (.seq (.region F.slices_Clone_int_int.r2) (.ret)) (.skip))) (.seq (.region F.slices_Clone_int_int.r3) (.ret)))
def F.slices_Clone_int_int : AFunc := ⟨F.slices_Clone_int_int.c, [.tmp 2]⟩
/-! slices.IndexFunc[[][]int,[]int] -/
def F.slices_IndexFunc_int_int_105.r0 : List DOp := [
  ⟨some 4, .mv (.const (.int .i64 0)), none, []⟩]
def F.slices_IndexFunc_int_int_105.r1 : List DOp := [
  ⟨some 6, .mv (.tmp 0), none, []⟩,
  ⟨some 7, .len (.tmp 6), none, []⟩,
  ⟨some 8, .mv (.const (.int .i64 0)), none, []⟩]
def F.slices_IndexFunc_int_int_105.r2 : List DOp := [
  ⟨some 9, .bin .lss (.tmp 8) (.tmp 7), none, []⟩]
def F.slices_IndexFunc_int_int_105.r3 : List DOp := [
  ⟨some 10, .mv (.tmp 8), none, []⟩,
  ⟨some 5, .mv (.tmp 10), none, []⟩]
def F.slices_IndexFunc_int_int_105.r4 : List DOp := [
  ⟨some 11, .mv (.tmp 1), none, []⟩,
  ⟨some 12, .mv (.tmp 0), none, []⟩,
  ⟨some 13, .mv (.tmp 5), none, []⟩,
  ⟨some 14, .idxs 1 (.tmp 12) (.tmp 13), none, []⟩,
  ⟨some 15, .load 1 false (.tmp 14), none, []⟩,
  ⟨some 16, .callv (.tmp 11) [.tmp 15], none, []⟩]
def F.slices_IndexFunc_int_int_105.r5 : List DOp := [
  ⟨some 17, .mv (.tmp 5), none, []⟩,
  ⟨some 4, .mv (.tmp 17), none, []⟩]
def F.slices_IndexFunc_int_int_105.r6 : List DOp := [
  ⟨some 18, .bin .add (.tmp 8) (.const (.int .i64 1)), none, []⟩,
  ⟨some 8, .mv (.tmp 18), none, []⟩]
def F.slices_IndexFunc_int_int_105.L0 : ACode := .seq (.region F.slices_IndexFunc_int_int_105.r2) (.seq (.cond (.tmp 9) (.skip) (.exit 0)) (.seq (.block 1 (.seq (.region F.slices_IndexFunc_int_int_105.r3) (.seq (.region F.slices_IndexFunc_int_int_105.r4) (.cond (.tmp 16) (.seq (.region F.slices_IndexFunc_int_int_105.r5) (.ret)) (.skip))))) (.region F.slices_IndexFunc_int_int_105.r6)))
def F.slices_IndexFunc_int_int_105.r7 : List DOp := [
  ⟨some 4, .mv (.const (.int .i64 (-1))), none, []⟩]
def F.slices_IndexFunc_int_int_105.c : ACode := .seq (.region F.slices_IndexFunc_int_int_105.r0) (.seq (.seq (.region F.slices_IndexFunc_int_int_105.r1) (.block 0 (.loop F.slices_IndexFunc_int_int_105.L0))) (.seq (.region F.slices_IndexFunc_int_int_105.r7) (.ret)))
def F.slices_IndexFunc_int_int_105 : AFunc := ⟨F.slices_IndexFunc_int_int_105.c, [.tmp 4]⟩
/-! slices.CompareFunc[[]parlance/api.Sym,[]parlance/api.Sym,parlance/api.Sym,parlance/api.Sym] -/
def F.slices_CompareFunc_api_Sym_api_Sym_api_Sym_api_Sym.r0 : List DOp := [
  ⟨some 6, .mv (.const (.int .i64 0)), none, []⟩]
def F.slices_CompareFunc_api_Sym_api_Sym_api_Sym_api_Sym.r1 : List DOp := [
  ⟨some 11, .mv (.tmp 0), none, []⟩,
  ⟨some 12, .len (.tmp 11), none, []⟩,
  ⟨some 13, .mv (.const (.int .i64 0)), none, []⟩]
def F.slices_CompareFunc_api_Sym_api_Sym_api_Sym_api_Sym.r2 : List DOp := [
  ⟨some 14, .bin .lss (.tmp 13) (.tmp 12), none, []⟩]
def F.slices_CompareFunc_api_Sym_api_Sym_api_Sym_api_Sym.r3 : List DOp := [
  ⟨some 15, .mv (.tmp 13), none, []⟩,
  ⟨some 16, .idxs 2 (.tmp 11) (.tmp 13), none, []⟩,
  ⟨some 17, .load 2 true (.tmp 16), none, []⟩,
  ⟨some 8, .alloc [.bool false, .int .i64 0], none, []⟩,
  ⟨some 7, .mv (.tmp 15), none, []⟩,
  ⟨none, .store 2 (.tmp 8) (.tmp 17), none, []⟩]
def F.slices_CompareFunc_api_Sym_api_Sym_api_Sym_api_Sym.r4 : List DOp := [
  ⟨some 18, .mv (.tmp 7), none, []⟩,
  ⟨some 19, .mv (.tmp 1), none, []⟩,
  ⟨some 20, .len (.tmp 19), none, []⟩,
  ⟨some 21, .bin .geq (.tmp 18) (.tmp 20), none, []⟩]
def F.slices_CompareFunc_api_Sym_api_Sym_api_Sym_api_Sym.r5 : List DOp := [
  ⟨some 6, .mv (.const (.int .i64 1)), none, []⟩]
def F.slices_CompareFunc_api_Sym_api_Sym_api_Sym_api_Sym.r6 : List DOp := [
  ⟨some 22, .mv (.tmp 1), none, []⟩,
  ⟨some 23, .mv (.tmp 7), none, []⟩,
  ⟨some 24, .idxs 2 (.tmp 22) (.tmp 23), none, []⟩,
  ⟨some 25, .load 2 true (.tmp 24), none, []⟩,
  ⟨some 9, .alloc [.bool false, .int .i64 0], none, []⟩,
  ⟨none, .store 2 (.tmp 9) (.tmp 25), none, []⟩]
def F.slices_CompareFunc_api_Sym_api_Sym_api_Sym_api_Sym.r7 : List DOp := [
  ⟨some 26, .mv (.tmp 2), none, []⟩,
  ⟨some 27, .load 2 true (.tmp 8), none, []⟩,
  ⟨some 28, .load 2 true (.tmp 9), none, []⟩,
  ⟨some 29, .callv (.tmp 26) [.tmp 27, .tmp 28], none, []⟩,
  ⟨some 10, .mv (.tmp 29), none, []⟩]
def F.slices_CompareFunc_api_Sym_api_Sym_api_Sym_api_Sym.r8 : List DOp := [
  ⟨some 30, .mv (.tmp 10), none, []⟩,
  ⟨some 31, .bin .neq (.tmp 30) (.const (.int .i64 0)), none, []⟩]
def F.slices_CompareFunc_api_Sym_api_Sym_api_Sym_api_Sym.r9 : List DOp := [
  ⟨some 32, .mv (.tmp 10), none, []⟩,
  ⟨some 6, .mv (.tmp 32), none, []⟩]
def F.slices_CompareFunc_api_Sym_api_Sym_api_Sym_api_Sym.r10 : List DOp := [
  ⟨some 33, .bin .add (.tmp 13) (.const (.int .i64 1)), none, []⟩,
  ⟨some 13, .mv (.tmp 33), none, []⟩]
def F.slices_CompareFunc_api_Sym_api_Sym_api_Sym_api_Sym.L0 : ACode := .seq (.region F.slices_CompareFunc_api_Sym_api_Sym_api_Sym_api_Sym.r2) (.seq (.cond (.tmp 14) (.skip) (.exit 0)) (.seq (.block 1 (.seq (.region F.slices_CompareFunc_api_Sym_api_Sym_api_Sym_api_Sym.r3) (.seq (.seq (.region F.slices_CompareFunc_api_Sym_api_Sym_api_Sym_api_Sym.r4) (.cond (.tmp 21) (.seq (.region F.slices_CompareFunc_api_Sym_api_Sym_api_Sym_api_Sym.r5) (.ret)) (.skip))) (.seq (.region F.slices_CompareFunc_api_Sym_api_Sym_api_Sym_api_Sym.r6) (.seq (.region F.slices_CompareFunc_api_Sym_api_Sym_api_Sym_api_Sym.r7) (.seq (.region F.slices_CompareFunc_api_Sym_api_Sym_api_Sym_api_Sym.r8) (.cond (.tmp 31) (.seq (.region F.slices_CompareFunc_api_Sym_api_Sym_api_Sym_api_Sym.r9) (.ret)) (.skip)))))))) (.region F.slices_CompareFunc_api_Sym_api_Sym_api_Sym_api_Sym.r10)))
def F.slices_CompareFunc_api_Sym_api_Sym_api_Sym_api_Sym.r11 : List DOp := [
  ⟨some 34, .mv (.tmp 0), none, []⟩,
  ⟨some 35, .len (.tmp 34), none, []⟩,
  ⟨some 36, .mv (.tmp 1), none, []⟩,
  ⟨some 37, .len (.tmp 36), none, []⟩,
  ⟨some 38, .bin .lss (.tmp 35) (.tmp 37), none, []⟩]
def F.slices_CompareFunc_api_Sym_api_Sym_api_Sym_api_Sym.r12 : List DOp := [
  ⟨some 6, .mv (.const (.int .i64 (-1))), none, []⟩]
def F.slices_CompareFunc_api_Sym_api_Sym_api_Sym_api_Sym.r13 : List DOp := [
  ⟨some 6, .mv (.const (.int .i64 0)), none, []⟩]
def F.slices_CompareFunc_api_Sym_api_Sym_api_Sym_api_Sym.c : ACode := .seq (.region F.slices_CompareFunc_api_Sym_api_Sym_api_Sym_api_Sym.r0) (.seq (.seq (.region F.slices_CompareFunc_api_Sym_api_Sym_api_Sym_api_Sym.r1) (.block 0 (.loop F.slices_CompareFunc_api_Sym_api_Sym_api_Sym_api_Sym.L0))) (.seq (.seq (.region F.slices_CompareFunc_api_Sym_api_Sym_api_Sym_api_Sym.r11) (.cond (.tmp 38) (.seq (.region F.slices_CompareFunc_api_Sym_api_Sym_api_Sym_api_Sym.r12) (.ret)) (.skip))) (.seq (.region F.slices_CompareFunc_api_Sym_api_Sym_api_Sym_api_Sym.r13) (.ret))))
def F.slices_CompareFunc_api_Sym_api_Sym_api_Sym_api_Sym : AFunc := ⟨F.slices_CompareFunc_api_Sym_api_Sym_api_Sym_api_Sym.c, [.tmp 6]⟩
/-! slices.Grow[[][]int,[]int] -/
def F.slices_Grow_int_int.r0 : List DOp := [
  ⟨some 4, .mv (.const (.slice none 0 0)), none, []⟩]
def F.slices_Grow_int_int.r1 : List DOp := [
  ⟨some 5, .mv (.tmp 1), none, []⟩,
  ⟨some 6, .bin .lss (.tmp 5) (.const (.int .i64 0)), none, []⟩]
def F.slices_Grow_int_int.r2 : List DOp := [
  ⟨some 7, .iface 9 (.const (.string ({ data := #[99, 97, 110, 110, 111, 116, 32, 98, 101, 32, 110, 101, 103, 97, 116, 105, 118, 101] }))), none, []⟩,
  ⟨none, .bad, none, []⟩]
def F.slices_Grow_int_int.r3 : List DOp := [
  ⟨some 8, .mv (.tmp 1), none, []⟩,
  ⟨some 9, .mv (.tmp 0), none, []⟩,
  ⟨some 10, .bad, none, []⟩,
  ⟨some 11, .mv (.tmp 0), none, []⟩,
  ⟨some 12, .len (.tmp 11), none, []⟩,
  ⟨some 13, .bin .sub (.tmp 10) (.tmp 12), none, []⟩,
  ⟨some 14, .bin .sub (.tmp 8) (.tmp 13), none, []⟩,
  ⟨some 1, .mv (.tmp 14), none, []⟩]
def F.slices_Grow_int_int.r4 : List DOp := [
  ⟨some 15, .mv (.tmp 1), none, []⟩,
  ⟨some 16, .bin .gtr (.tmp 15) (.const (.int .i64 0)), none, []⟩]
def F.slices_Grow_int_int.r5 : List DOp := [
  ⟨some 17, .mv (.tmp 0), none, []⟩,
  ⟨some 18, .mv (.tmp 0), none, []⟩,
  ⟨some 19, .bad, none, []⟩,
  ⟨some 20, .slice 1 (.tmp 17) none (some (.tmp 19)), none, []⟩,
  ⟨some 21, .mv (.tmp 1), none, []⟩,
  ⟨some 22, .bad, none, []⟩,
  ⟨some 23, .mv (.tmp 0), none, []⟩,
  ⟨some 24, .len (.tmp 23), none, []⟩,
  ⟨some 25, .slice 1 (.tmp 22) none (some (.tmp 24)), none, []⟩,
  ⟨some 0, .mv (.tmp 25), none, []⟩]
def F.slices_Grow_int_int.r6 : List DOp := [
  ⟨some 26, .mv (.tmp 0), none, []⟩,
  ⟨some 4, .mv (.tmp 26), none, []⟩]
def F.slices_Grow_int_int.c : ACode := .seq (.region F.slices_Grow_int_int.r0) (.seq (.seq (.region F.slices_Grow_int_int.r1) (.cond (.tmp 6) (.region F.slices_Grow_int_int.r2) (.skip))) (.seq (.seq (.region F.slices_Grow_int_int.r3) (.seq (.region F.slices_Grow_int_int.r4) (.cond (.tmp 16) (.region F.slices_Grow_int_int.r5) (.skip)))) (.seq (.region F.slices_Grow_int_int.r6) (.ret))))
def F.slices_Grow_int_int : AFunc := ⟨F.slices_Grow_int_int.c, [.tmp 4]⟩
end Go.Proofs.Ythgdobdhdfjhfaa
