/- The abstract code of package slices, written by wip/tools/gen.py from the translation. -/
import Derived.Test.YthgdobdhdfjhfaaI
namespace Go.Proofs.Ythgdobdhdfjhfaa
open Go Go.Ab
/-! slices.Equal[[]int,int] -/
def F.slices_Equal_int_int.r0 : List DOp := [
 Dd 4 (.mv (.const (.bool false)))]
def F.slices_Equal_int_int.r1 : List DOp := [
 Dd 6 (.mv (.tmp 0)),
 Dd 7 (.len (.tmp 6)),
 Dd 8 (.mv (.tmp 1)),
 Dd 9 (.len (.tmp 8)),
 Dd 10 (.bin .neq (.tmp 7) (.tmp 9))]
def F.slices_Equal_int_int.r2 : List DOp := [
 Dd 4 (.mv (.const (.bool false)))]
def F.slices_Equal_int_int.r3 : List DOp := [
 Dd 11 (.mv (.tmp 0)),
 Dd 12 (.len (.tmp 11)),
 Dd 13 (.mv (.const (.int .i64 0)))]
def F.slices_Equal_int_int.r4 : List DOp := [
 Dd 14 (.bin .lss (.tmp 13) (.tmp 12))]
def F.slices_Equal_int_int.r5 : List DOp := [
 Dd 15 (.mv (.tmp 13)),
 Dd 5 (.mv (.tmp 15))]
def F.slices_Equal_int_int.r6 : List DOp := [
 Dd 16 (.mv (.tmp 0)),
 Dd 17 (.mv (.tmp 5)),
 Dd 18 (.idxs 1 (.tmp 16) (.tmp 17)),
 Dd 19 (.load 1 false (.tmp 18)),
 Dd 20 (.mv (.tmp 1)),
 Dd 21 (.mv (.tmp 5)),
 Dd 22 (.idxs 1 (.tmp 20) (.tmp 21)),
 Dd 23 (.load 1 false (.tmp 22)),
 Dd 24 (.bin .neq (.tmp 19) (.tmp 23))]
def F.slices_Equal_int_int.r7 : List DOp := [
 Dd 4 (.mv (.const (.bool false)))]
def F.slices_Equal_int_int.r8 : List DOp := [
 Dd 25 (.bin .add (.tmp 13) (.const (.int .i64 1))),
 Dd 13 (.mv (.tmp 25))]
def F.slices_Equal_int_int.L0 : ACode := .seq (.region F.slices_Equal_int_int.r4) (.seq (.cond (.tmp 14) (.skip) (.exit 0)) (.seq (.block 1 (.seq (.region F.slices_Equal_int_int.r5) (.seq (.draw F.slices_Equal_int_int.r6 []) (.cond (.tmp 24) (.seq (.region F.slices_Equal_int_int.r7) (.ret)) (.skip))))) (.region F.slices_Equal_int_int.r8)))
def F.slices_Equal_int_int.r9 : List DOp := [
 Dd 4 (.mv (.const (.bool true)))]
def F.slices_Equal_int_int.c : ACode := .seq (.region F.slices_Equal_int_int.r0) (.seq (.seq (.region F.slices_Equal_int_int.r1) (.cond (.tmp 10) (.seq (.region F.slices_Equal_int_int.r2) (.ret)) (.skip))) (.seq (.seq (.region F.slices_Equal_int_int.r3) (.block 0 (.loop F.slices_Equal_int_int.L0))) (.seq (.region F.slices_Equal_int_int.r9) (.ret))))
def F.slices_Equal_int_int : AFunc := ⟨F.slices_Equal_int_int.c, [.tmp 4]⟩
/-! slices.ContainsFunc[[]parlance/api.Rule,parlance/api.Rule] -/
def F.slices_ContainsFunc_api_Rule_api_Rule.r0 : List DOp := [
 Dd 4 (.mv (.const (.bool false)))]
def F.slices_ContainsFunc_api_Rule_api_Rule.r1 : List DOp := [
 Dd 5 (.mv (.tmp 0)),
 Dd 6 (.mv (.tmp 1)),
 Dd 7 (.call I.slices_IndexFunc_api_Rule_api_Rule [.tmp 5, .tmp 6]),
 Dd 8 (.bin .geq (.tmp 7) (.const (.int .i64 0))),
 Dd 4 (.mv (.tmp 8))]
def F.slices_ContainsFunc_api_Rule_api_Rule.c : ACode := .seq (.region F.slices_ContainsFunc_api_Rule_api_Rule.r0) (.seq (.region F.slices_ContainsFunc_api_Rule_api_Rule.r1) (.ret))
def F.slices_ContainsFunc_api_Rule_api_Rule : AFunc := ⟨F.slices_ContainsFunc_api_Rule_api_Rule.c, [.tmp 4]⟩
/-! slices.Equal[[]parlance/api.Sym,parlance/api.Sym] -/
def F.slices_Equal_api_Sym_api_Sym.r0 : List DOp := [
 Dd 4 (.mv (.const (.bool false)))]
def F.slices_Equal_api_Sym_api_Sym.r1 : List DOp := [
 Dd 6 (.mv (.tmp 0)),
 Dd 7 (.len (.tmp 6)),
 Dd 8 (.mv (.tmp 1)),
 Dd 9 (.len (.tmp 8)),
 Dd 10 (.bin .neq (.tmp 7) (.tmp 9))]
def F.slices_Equal_api_Sym_api_Sym.r2 : List DOp := [
 Dd 4 (.mv (.const (.bool false)))]
def F.slices_Equal_api_Sym_api_Sym.r3 : List DOp := [
 Dd 11 (.mv (.tmp 0)),
 Dd 12 (.len (.tmp 11)),
 Dd 13 (.mv (.const (.int .i64 0)))]
def F.slices_Equal_api_Sym_api_Sym.r4 : List DOp := [
 Dd 14 (.bin .lss (.tmp 13) (.tmp 12))]
def F.slices_Equal_api_Sym_api_Sym.r5 : List DOp := [
 Dd 15 (.mv (.tmp 13)),
 Dd 5 (.mv (.tmp 15))]
def F.slices_Equal_api_Sym_api_Sym.r6 : List DOp := [
 Dd 16 (.mv (.tmp 0)),
 Dd 17 (.mv (.tmp 5)),
 Dd 18 (.idxs 2 (.tmp 16) (.tmp 17)),
 Dd 19 (.load 2 true (.tmp 18)),
 Dd 20 (.mv (.tmp 1)),
 Dd 21 (.mv (.tmp 5)),
 Dd 22 (.idxs 2 (.tmp 20) (.tmp 21)),
 Dd 23 (.load 2 true (.tmp 22)),
 Dd 24 (.eq true (.struct [(0, .bool), (1, .int)]) (.tmp 19) (.tmp 23))]
def F.slices_Equal_api_Sym_api_Sym.r7 : List DOp := [
 Dd 4 (.mv (.const (.bool false)))]
def F.slices_Equal_api_Sym_api_Sym.r8 : List DOp := [
 Dd 25 (.bin .add (.tmp 13) (.const (.int .i64 1))),
 Dd 13 (.mv (.tmp 25))]
def F.slices_Equal_api_Sym_api_Sym.L0 : ACode := .seq (.region F.slices_Equal_api_Sym_api_Sym.r4) (.seq (.cond (.tmp 14) (.skip) (.exit 0)) (.seq (.block 1 (.seq (.region F.slices_Equal_api_Sym_api_Sym.r5) (.seq (.draw F.slices_Equal_api_Sym_api_Sym.r6 []) (.cond (.tmp 24) (.seq (.region F.slices_Equal_api_Sym_api_Sym.r7) (.ret)) (.skip))))) (.region F.slices_Equal_api_Sym_api_Sym.r8)))
def F.slices_Equal_api_Sym_api_Sym.r9 : List DOp := [
 Dd 4 (.mv (.const (.bool true)))]
def F.slices_Equal_api_Sym_api_Sym.c : ACode := .seq (.region F.slices_Equal_api_Sym_api_Sym.r0) (.seq (.seq (.region F.slices_Equal_api_Sym_api_Sym.r1) (.cond (.tmp 10) (.seq (.region F.slices_Equal_api_Sym_api_Sym.r2) (.ret)) (.skip))) (.seq (.seq (.region F.slices_Equal_api_Sym_api_Sym.r3) (.block 0 (.loop F.slices_Equal_api_Sym_api_Sym.L0))) (.seq (.region F.slices_Equal_api_Sym_api_Sym.r9) (.ret))))
def F.slices_Equal_api_Sym_api_Sym : AFunc := ⟨F.slices_Equal_api_Sym_api_Sym.c, [.tmp 4]⟩
/-! slices.IndexFunc[[]parlance/api.Rule,parlance/api.Rule] -/
def F.slices_IndexFunc_api_Rule_api_Rule.r0 : List DOp := [
 Dd 4 (.mv (.const (.int .i64 0)))]
def F.slices_IndexFunc_api_Rule_api_Rule.r1 : List DOp := [
 Dd 6 (.mv (.tmp 0)),
 Dd 7 (.len (.tmp 6)),
 Dd 8 (.mv (.const (.int .i64 0)))]
def F.slices_IndexFunc_api_Rule_api_Rule.r2 : List DOp := [
 Dd 9 (.bin .lss (.tmp 8) (.tmp 7))]
def F.slices_IndexFunc_api_Rule_api_Rule.r3 : List DOp := [
 Dd 10 (.mv (.tmp 8)),
 Dd 5 (.mv (.tmp 10))]
def F.slices_IndexFunc_api_Rule_api_Rule.r4 : List DOp := [
 Dd 11 (.mv (.tmp 1)),
 Dd 12 (.mv (.tmp 0)),
 Dd 13 (.mv (.tmp 5)),
 Dd 14 (.idxs 2 (.tmp 12) (.tmp 13)),
 Dd 15 (.load 2 true (.tmp 14)),
 Dd 16 (.callv (.tmp 11) [.tmp 15])]
def F.slices_IndexFunc_api_Rule_api_Rule.r5 : List DOp := [
 Dd 17 (.mv (.tmp 5)),
 Dd 4 (.mv (.tmp 17))]
def F.slices_IndexFunc_api_Rule_api_Rule.r6 : List DOp := [
 Dd 18 (.bin .add (.tmp 8) (.const (.int .i64 1))),
 Dd 8 (.mv (.tmp 18))]
def F.slices_IndexFunc_api_Rule_api_Rule.L0 : ACode := .seq (.region F.slices_IndexFunc_api_Rule_api_Rule.r2) (.seq (.cond (.tmp 9) (.skip) (.exit 0)) (.seq (.block 1 (.seq (.region F.slices_IndexFunc_api_Rule_api_Rule.r3) (.seq (.region F.slices_IndexFunc_api_Rule_api_Rule.r4) (.cond (.tmp 16) (.seq (.region F.slices_IndexFunc_api_Rule_api_Rule.r5) (.ret)) (.skip))))) (.region F.slices_IndexFunc_api_Rule_api_Rule.r6)))
def F.slices_IndexFunc_api_Rule_api_Rule.r7 : List DOp := [
 Dd 4 (.mv (.const (.int .i64 (-1))))]
def F.slices_IndexFunc_api_Rule_api_Rule.c : ACode := .seq (.region F.slices_IndexFunc_api_Rule_api_Rule.r0) (.seq (.seq (.region F.slices_IndexFunc_api_Rule_api_Rule.r1) (.block 0 (.loop F.slices_IndexFunc_api_Rule_api_Rule.L0))) (.seq (.region F.slices_IndexFunc_api_Rule_api_Rule.r7) (.ret)))
def F.slices_IndexFunc_api_Rule_api_Rule : AFunc := ⟨F.slices_IndexFunc_api_Rule_api_Rule.c, [.tmp 4]⟩
/-! slices.CompareFunc[[]parlance/api.Sym,[]parlance/api.Sym,parlance/api.Sym,parlance/api.Sym] -/
def F.slices_CompareFunc_api_Sym_api_Sym_api_Sym_api_Sym.r0 : List DOp := [
 Dd 6 (.mv (.const (.int .i64 0)))]
def F.slices_CompareFunc_api_Sym_api_Sym_api_Sym_api_Sym.r1 : List DOp := [
 Dd 11 (.mv (.tmp 0)),
 Dd 12 (.len (.tmp 11)),
 Dd 13 (.mv (.const (.int .i64 0)))]
def F.slices_CompareFunc_api_Sym_api_Sym_api_Sym_api_Sym.r2 : List DOp := [
 Dd 14 (.bin .lss (.tmp 13) (.tmp 12))]
def F.slices_CompareFunc_api_Sym_api_Sym_api_Sym_api_Sym.r3 : List DOp := [
 Dd 15 (.mv (.tmp 13)),
 Dd 16 (.idxs 2 (.tmp 11) (.tmp 13)),
 Dd 17 (.load 2 true (.tmp 16)),
 Dd 8 (.alloc [.bool false, .int .i64 0]),
 Dd 7 (.mv (.tmp 15)),
 De (.store 2 (.tmp 8) (.tmp 17))]
def F.slices_CompareFunc_api_Sym_api_Sym_api_Sym_api_Sym.r4 : List DOp := [
 Dd 18 (.mv (.tmp 7)),
 Dd 19 (.mv (.tmp 1)),
 Dd 20 (.len (.tmp 19)),
 Dd 21 (.bin .geq (.tmp 18) (.tmp 20))]
def F.slices_CompareFunc_api_Sym_api_Sym_api_Sym_api_Sym.r5 : List DOp := [
 Dd 6 (.mv (.const (.int .i64 1)))]
def F.slices_CompareFunc_api_Sym_api_Sym_api_Sym_api_Sym.r6 : List DOp := [
 Dd 22 (.mv (.tmp 1)),
 Dd 23 (.mv (.tmp 7)),
 Dd 24 (.idxs 2 (.tmp 22) (.tmp 23)),
 Dd 25 (.load 2 true (.tmp 24)),
 Dd 9 (.alloc [.bool false, .int .i64 0]),
 De (.store 2 (.tmp 9) (.tmp 25))]
def F.slices_CompareFunc_api_Sym_api_Sym_api_Sym_api_Sym.r7 : List DOp := [
 Dd 26 (.mv (.tmp 2)),
 Dd 27 (.load 2 true (.tmp 8)),
 Dd 28 (.load 2 true (.tmp 9)),
 Dd 29 (.callv (.tmp 26) [.tmp 27, .tmp 28]),
 Dd 10 (.mv (.tmp 29))]
def F.slices_CompareFunc_api_Sym_api_Sym_api_Sym_api_Sym.r8 : List DOp := [
 Dd 30 (.mv (.tmp 10)),
 Dd 31 (.bin .neq (.tmp 30) (.const (.int .i64 0)))]
def F.slices_CompareFunc_api_Sym_api_Sym_api_Sym_api_Sym.r9 : List DOp := [
 Dd 32 (.mv (.tmp 10)),
 Dd 6 (.mv (.tmp 32))]
def F.slices_CompareFunc_api_Sym_api_Sym_api_Sym_api_Sym.r10 : List DOp := [
 Dd 33 (.bin .add (.tmp 13) (.const (.int .i64 1))),
 Dd 13 (.mv (.tmp 33))]
def F.slices_CompareFunc_api_Sym_api_Sym_api_Sym_api_Sym.L0 : ACode := .seq (.region F.slices_CompareFunc_api_Sym_api_Sym_api_Sym_api_Sym.r2) (.seq (.cond (.tmp 14) (.skip) (.exit 0)) (.seq (.block 1 (.seq (.region F.slices_CompareFunc_api_Sym_api_Sym_api_Sym_api_Sym.r3) (.seq (.seq (.region F.slices_CompareFunc_api_Sym_api_Sym_api_Sym_api_Sym.r4) (.cond (.tmp 21) (.seq (.region F.slices_CompareFunc_api_Sym_api_Sym_api_Sym_api_Sym.r5) (.ret)) (.skip))) (.seq (.region F.slices_CompareFunc_api_Sym_api_Sym_api_Sym_api_Sym.r6) (.seq (.region F.slices_CompareFunc_api_Sym_api_Sym_api_Sym_api_Sym.r7) (.seq (.region F.slices_CompareFunc_api_Sym_api_Sym_api_Sym_api_Sym.r8) (.cond (.tmp 31) (.seq (.region F.slices_CompareFunc_api_Sym_api_Sym_api_Sym_api_Sym.r9) (.ret)) (.skip)))))))) (.region F.slices_CompareFunc_api_Sym_api_Sym_api_Sym_api_Sym.r10)))
def F.slices_CompareFunc_api_Sym_api_Sym_api_Sym_api_Sym.r11 : List DOp := [
 Dd 34 (.mv (.tmp 0)),
 Dd 35 (.len (.tmp 34)),
 Dd 36 (.mv (.tmp 1)),
 Dd 37 (.len (.tmp 36)),
 Dd 38 (.bin .lss (.tmp 35) (.tmp 37))]
def F.slices_CompareFunc_api_Sym_api_Sym_api_Sym_api_Sym.r12 : List DOp := [
 Dd 6 (.mv (.const (.int .i64 (-1))))]
def F.slices_CompareFunc_api_Sym_api_Sym_api_Sym_api_Sym.r13 : List DOp := [
 Dd 6 (.mv (.const (.int .i64 0)))]
def F.slices_CompareFunc_api_Sym_api_Sym_api_Sym_api_Sym.c : ACode := .seq (.region F.slices_CompareFunc_api_Sym_api_Sym_api_Sym_api_Sym.r0) (.seq (.seq (.region F.slices_CompareFunc_api_Sym_api_Sym_api_Sym_api_Sym.r1) (.block 0 (.loop F.slices_CompareFunc_api_Sym_api_Sym_api_Sym_api_Sym.L0))) (.seq (.seq (.region F.slices_CompareFunc_api_Sym_api_Sym_api_Sym_api_Sym.r11) (.cond (.tmp 38) (.seq (.region F.slices_CompareFunc_api_Sym_api_Sym_api_Sym_api_Sym.r12) (.ret)) (.skip))) (.seq (.region F.slices_CompareFunc_api_Sym_api_Sym_api_Sym_api_Sym.r13) (.ret))))
def F.slices_CompareFunc_api_Sym_api_Sym_api_Sym_api_Sym : AFunc := ⟨F.slices_CompareFunc_api_Sym_api_Sym_api_Sym_api_Sym.c, [.tmp 6]⟩
end Go.Proofs.Ythgdobdhdfjhfaa
