/- The abstract code of package slices, written by wip/tools/gen.py from the translation. -/
import Derived.Test.YthgdobdhdfjhfaaI
namespace Go.Proofs.Ythgdobdhdfjhfaa
open Go Go.Ab
/-! slices.Equal[[]int,int] -/
def F.slices_Equal_int_int.r0 : List DOp := [
  ⟨some 4, .mv (.const (.bool false)), none, []⟩]
def F.slices_Equal_int_int.r1 : List DOp := [
  ⟨some 6, .mv (.tmp 0), none, []⟩,
  ⟨some 7, .len (.tmp 6), none, []⟩,
  ⟨some 8, .mv (.tmp 1), none, []⟩,
  ⟨some 9, .len (.tmp 8), none, []⟩,
  ⟨some 10, .bin .neq (.tmp 7) (.tmp 9), none, []⟩]
def F.slices_Equal_int_int.r2 : List DOp := [
  ⟨some 4, .mv (.const (.bool false)), none, []⟩]
def F.slices_Equal_int_int.r3 : List DOp := [
  ⟨some 11, .mv (.tmp 0), none, []⟩,
  ⟨some 12, .len (.tmp 11), none, []⟩,
  ⟨some 13, .mv (.const (.int .i64 0)), none, []⟩]
def F.slices_Equal_int_int.r4 : List DOp := [
  ⟨some 14, .bin .lss (.tmp 13) (.tmp 12), none, []⟩]
def F.slices_Equal_int_int.r5 : List DOp := [
  ⟨some 15, .mv (.tmp 13), none, []⟩,
  ⟨some 5, .mv (.tmp 15), none, []⟩]
def F.slices_Equal_int_int.r6 : List DOp := [
  ⟨some 16, .mv (.tmp 0), none, []⟩,
  ⟨some 17, .mv (.tmp 5), none, []⟩,
  ⟨some 18, .idxs 1 (.tmp 16) (.tmp 17), none, []⟩,
  ⟨some 19, .load 1 false (.tmp 18), none, []⟩,
  ⟨some 20, .mv (.tmp 1), none, []⟩,
  ⟨some 21, .mv (.tmp 5), none, []⟩,
  ⟨some 22, .idxs 1 (.tmp 20) (.tmp 21), none, []⟩,
  ⟨some 23, .load 1 false (.tmp 22), none, []⟩,
  ⟨some 24, .bin .neq (.tmp 19) (.tmp 23), none, []⟩]
def F.slices_Equal_int_int.r7 : List DOp := [
  ⟨some 4, .mv (.const (.bool false)), none, []⟩]
def F.slices_Equal_int_int.r8 : List DOp := [
  ⟨some 25, .bin .add (.tmp 13) (.const (.int .i64 1)), none, []⟩,
  ⟨some 13, .mv (.tmp 25), none, []⟩]
def F.slices_Equal_int_int.L0 : ACode := .seq (.region F.slices_Equal_int_int.r4) (.seq (.cond (.tmp 14) (.skip) (.exit 0)) (.seq (.block 1 (.seq (.region F.slices_Equal_int_int.r5) (.seq (.draw F.slices_Equal_int_int.r6 []) (.cond (.tmp 24) (.seq (.region F.slices_Equal_int_int.r7) (.ret)) (.skip))))) (.region F.slices_Equal_int_int.r8)))
def F.slices_Equal_int_int.r9 : List DOp := [
  ⟨some 4, .mv (.const (.bool true)), none, []⟩]
def F.slices_Equal_int_int.c : ACode := .seq (.region F.slices_Equal_int_int.r0) (.seq (.seq (.region F.slices_Equal_int_int.r1) (.cond (.tmp 10) (.seq (.region F.slices_Equal_int_int.r2) (.ret)) (.skip))) (.seq (.seq (.region F.slices_Equal_int_int.r3) (.block 0 (.loop F.slices_Equal_int_int.L0))) (.seq (.region F.slices_Equal_int_int.r9) (.ret))))
def F.slices_Equal_int_int : AFunc := ⟨F.slices_Equal_int_int.c, [.tmp 4]⟩
/-! slices.Clone[[]parlance/api.Rule,parlance/api.Rule] -/
def F.slices_Clone_api_Rule_api_Rule.r0 : List DOp := [
  ⟨some 2, .mv (.const (.slice none 0 0)), none, []⟩]
def F.slices_Clone_api_Rule_api_Rule.r1 : List DOp := [
  ⟨some 3, .mv (.tmp 0), none, []⟩,
  ⟨some 4, .eq false .slice (.tmp 3) (.const (.slice none 0 0)), none, []⟩]
def F.slices_Clone_api_Rule_api_Rule.r2 : List DOp := [
  ⟨some 2, .mv (.const (.slice none 0 0)), none, []⟩]
def F.slices_Clone_api_Rule_api_Rule.r3 : List DOp := [
  ⟨some 5, .bslice 2 0 [] [], none, []⟩,
  ⟨some 6, .mv (.tmp 0), none, []⟩,
  ⟨some 7, .append 2 32 (.tmp 5) (.tmp 6), none, []⟩,
  ⟨some 2, .mv (.tmp 7), none, []⟩]
def F.slices_Clone_api_Rule_api_Rule.c : ACode := .seq (.region F.slices_Clone_api_Rule_api_Rule.r0) (.seq (.seq (.region F.slices_Clone_api_Rule_api_Rule.r1) (.cond (.tmp 4) (.seq (.region F.slices_Clone_api_Rule_api_Rule.r2) (.ret)) (.skip))) (.seq (.region F.slices_Clone_api_Rule_api_Rule.r3) (.ret)))
def F.slices_Clone_api_Rule_api_Rule : AFunc := ⟨F.slices_Clone_api_Rule_api_Rule.c, [.tmp 2]⟩
/-! slices.Reverse[[]parlance/api.Rule,parlance/api.Rule] -/
def F.slices_Reverse_api_Rule_api_Rule.r0 : List DOp := [
  ⟨some 4, .mv (.tmp 0), none, []⟩,
  ⟨some 5, .len (.tmp 4), none, []⟩,
  ⟨some 6, .bin .sub (.tmp 5) (.const (.int .i64 1)), none, []⟩,
  ⟨some 2, .mv (.const (.int .i64 0)), none, []⟩,
  ⟨some 3, .mv (.tmp 6), none, []⟩]
def F.slices_Reverse_api_Rule_api_Rule.r1 : List DOp := [
  ⟨some 7, .mv (.tmp 2), none, []⟩,
  ⟨some 8, .mv (.tmp 3), none, []⟩,
  ⟨some 9, .bin .lss (.tmp 7) (.tmp 8), none, []⟩]
def F.slices_Reverse_api_Rule_api_Rule.r3 : List DOp := [
  ⟨some 14, .mv (.tmp 0), none, []⟩,
  ⟨some 15, .mv (.tmp 2), none, []⟩,
  ⟨some 16, .mv (.tmp 0), none, []⟩,
  ⟨some 17, .mv (.tmp 3), none, []⟩,
  ⟨some 18, .mv (.tmp 0), none, []⟩,
  ⟨some 19, .mv (.tmp 3), none, []⟩,
  ⟨some 20, .idxs 2 (.tmp 18) (.tmp 19), none, []⟩,
  ⟨some 21, .load 2 true (.tmp 20), none, []⟩,
  ⟨some 22, .mv (.tmp 0), none, []⟩,
  ⟨some 23, .mv (.tmp 2), none, []⟩,
  ⟨some 24, .idxs 2 (.tmp 22) (.tmp 23), none, []⟩,
  ⟨some 25, .load 2 true (.tmp 24), none, []⟩,
  ⟨some 26, .idxs 2 (.tmp 14) (.tmp 15), none, []⟩,
  ⟨none, .store 2 (.tmp 26) (.tmp 21), none, []⟩,
  ⟨some 27, .idxs 2 (.tmp 16) (.tmp 17), none, []⟩,
  ⟨none, .store 2 (.tmp 27) (.tmp 25), none, []⟩]
def F.slices_Reverse_api_Rule_api_Rule.r2 : List DOp := [
  ⟨some 10, .mv (.tmp 2), none, []⟩,
  ⟨some 11, .bin .add (.tmp 10) (.const (.int .i64 1)), none, []⟩,
  ⟨some 12, .mv (.tmp 3), none, []⟩,
  ⟨some 13, .bin .sub (.tmp 12) (.const (.int .i64 1)), none, []⟩,
  ⟨some 2, .mv (.tmp 11), none, []⟩,
  ⟨some 3, .mv (.tmp 13), none, []⟩]
def F.slices_Reverse_api_Rule_api_Rule.L0 : ACode := .seq (.seq (.region F.slices_Reverse_api_Rule_api_Rule.r1) (.cond (.tmp 9) (.skip) (.exit 0))) (.seq (.block 1 (.draw F.slices_Reverse_api_Rule_api_Rule.r3 [])) (.region F.slices_Reverse_api_Rule_api_Rule.r2))
def F.slices_Reverse_api_Rule_api_Rule.c : ACode := .seq (.region F.slices_Reverse_api_Rule_api_Rule.r0) (.block 0 (.loop F.slices_Reverse_api_Rule_api_Rule.L0))
def F.slices_Reverse_api_Rule_api_Rule : AFunc := ⟨F.slices_Reverse_api_Rule_api_Rule.c, []⟩
/-! slices.CompareFunc[[]parlance/api.Sym,[]parlance/api.Sym,parlance/api.Sym,parlance/api.Sym] -/
def F.slices_CompareFunc_api_Sym_api_Sym_api_Sym_api_Sym.r0 : List DOp := [
  ⟨some 6, .mv (.const (.int .i64 0)), none, []⟩]
def F.slices_CompareFunc_api_Sym_api_Sym_api_Sym_api_Sym.r1 : List DOp := [
  ⟨some 11, .mv (.tmp 0), none, []⟩,
  ⟨some 12, .len (.tmp 11), none, []⟩,
  ⟨some 13, .mv (.const (.int .i64 0)), none, []⟩]
def F.slices_CompareFunc_api_Sym_api_Sym_api_Sym_api_Sym.r2 : List DOp := [
  ⟨some 14, .bin .lss (.tmp 13) (.tmp 12), none, []⟩]
def F.slices_CompareFunc_api_Sym_api_Sym_api_Sym_api_Sym.r3 : List DOp := [
  ⟨some 15, .mv (.tmp 13), none, []⟩,
  ⟨some 16, .idxs 2 (.tmp 11) (.tmp 13), none, []⟩,
  ⟨some 17, .load 2 true (.tmp 16), none, []⟩,
  ⟨some 8, .alloc [.bool false, .int .i64 0], none, []⟩,
  ⟨some 7, .mv (.tmp 15), none, []⟩,
  ⟨none, .store 2 (.tmp 8) (.tmp 17), none, []⟩]
def F.slices_CompareFunc_api_Sym_api_Sym_api_Sym_api_Sym.r4 : List DOp := [
  ⟨some 18, .mv (.tmp 7), none, []⟩,
  ⟨some 19, .mv (.tmp 1), none, []⟩,
  ⟨some 20, .len (.tmp 19), none, []⟩,
  ⟨some 21, .bin .geq (.tmp 18) (.tmp 20), none, []⟩]
def F.slices_CompareFunc_api_Sym_api_Sym_api_Sym_api_Sym.r5 : List DOp := [
  ⟨some 6, .mv (.const (.int .i64 1)), none, []⟩]
def F.slices_CompareFunc_api_Sym_api_Sym_api_Sym_api_Sym.r6 : List DOp := [
  ⟨some 22, .mv (.tmp 1), none, []⟩,
  ⟨some 23, .mv (.tmp 7), none, []⟩,
  ⟨some 24, .idxs 2 (.tmp 22) (.tmp 23), none, []⟩,
  ⟨some 25, .load 2 true (.tmp 24), none, []⟩,
  ⟨some 9, .alloc [.bool false, .int .i64 0], none, []⟩,
  ⟨none, .store 2 (.tmp 9) (.tmp 25), none, []⟩]
def F.slices_CompareFunc_api_Sym_api_Sym_api_Sym_api_Sym.r7 : List DOp := [
  ⟨some 26, .mv (.tmp 2), none, []⟩,
  ⟨some 27, .load 2 true (.tmp 8), none, []⟩,
  ⟨some 28, .load 2 true (.tmp 9), none, []⟩,
  ⟨some 29, .callv (.tmp 26) [.tmp 27, .tmp 28], none, []⟩,
  ⟨some 10, .mv (.tmp 29), none, []⟩]
def F.slices_CompareFunc_api_Sym_api_Sym_api_Sym_api_Sym.r8 : List DOp := [
  ⟨some 30, .mv (.tmp 10), none, []⟩,
  ⟨some 31, .bin .neq (.tmp 30) (.const (.int .i64 0)), none, []⟩]
def F.slices_CompareFunc_api_Sym_api_Sym_api_Sym_api_Sym.r9 : List DOp := [
  ⟨some 32, .mv (.tmp 10), none, []⟩,
  ⟨some 6, .mv (.tmp 32), none, []⟩]
def F.slices_CompareFunc_api_Sym_api_Sym_api_Sym_api_Sym.r10 : List DOp := [
  ⟨some 33, .bin .add (.tmp 13) (.const (.int .i64 1)), none, []⟩,
  ⟨some 13, .mv (.tmp 33), none, []⟩]
def F.slices_CompareFunc_api_Sym_api_Sym_api_Sym_api_Sym.L0 : ACode := .seq (.region F.slices_CompareFunc_api_Sym_api_Sym_api_Sym_api_Sym.r2) (.seq (.cond (.tmp 14) (.skip) (.exit 0)) (.seq (.block 1 (.seq (.region F.slices_CompareFunc_api_Sym_api_Sym_api_Sym_api_Sym.r3) (.seq (.seq (.region F.slices_CompareFunc_api_Sym_api_Sym_api_Sym_api_Sym.r4) (.cond (.tmp 21) (.seq (.region F.slices_CompareFunc_api_Sym_api_Sym_api_Sym_api_Sym.r5) (.ret)) (.skip))) (.seq (.region F.slices_CompareFunc_api_Sym_api_Sym_api_Sym_api_Sym.r6) (.seq (.region F.slices_CompareFunc_api_Sym_api_Sym_api_Sym_api_Sym.r7) (.seq (.region F.slices_CompareFunc_api_Sym_api_Sym_api_Sym_api_Sym.r8) (.cond (.tmp 31) (.seq (.region F.slices_CompareFunc_api_Sym_api_Sym_api_Sym_api_Sym.r9) (.ret)) (.skip)))))))) (.region F.slices_CompareFunc_api_Sym_api_Sym_api_Sym_api_Sym.r10)))
def F.slices_CompareFunc_api_Sym_api_Sym_api_Sym_api_Sym.r11 : List DOp := [
  ⟨some 34, .mv (.tmp 0), none, []⟩,
  ⟨some 35, .len (.tmp 34), none, []⟩,
  ⟨some 36, .mv (.tmp 1), none, []⟩,
  ⟨some 37, .len (.tmp 36), none, []⟩,
  ⟨some 38, .bin .lss (.tmp 35) (.tmp 37), none, []⟩]
def F.slices_CompareFunc_api_Sym_api_Sym_api_Sym_api_Sym.r12 : List DOp := [
  ⟨some 6, .mv (.const (.int .i64 (-1))), none, []⟩]
def F.slices_CompareFunc_api_Sym_api_Sym_api_Sym_api_Sym.r13 : List DOp := [
  ⟨some 6, .mv (.const (.int .i64 0)), none, []⟩]
def F.slices_CompareFunc_api_Sym_api_Sym_api_Sym_api_Sym.c : ACode := .seq (.region F.slices_CompareFunc_api_Sym_api_Sym_api_Sym_api_Sym.r0) (.seq (.seq (.region F.slices_CompareFunc_api_Sym_api_Sym_api_Sym_api_Sym.r1) (.block 0 (.loop F.slices_CompareFunc_api_Sym_api_Sym_api_Sym_api_Sym.L0))) (.seq (.seq (.region F.slices_CompareFunc_api_Sym_api_Sym_api_Sym_api_Sym.r11) (.cond (.tmp 38) (.seq (.region F.slices_CompareFunc_api_Sym_api_Sym_api_Sym_api_Sym.r12) (.ret)) (.skip))) (.seq (.region F.slices_CompareFunc_api_Sym_api_Sym_api_Sym_api_Sym.r13) (.ret))))
def F.slices_CompareFunc_api_Sym_api_Sym_api_Sym_api_Sym : AFunc := ⟨F.slices_CompareFunc_api_Sym_api_Sym_api_Sym_api_Sym.c, [.tmp 6]⟩
end Go.Proofs.Ythgdobdhdfjhfaa
