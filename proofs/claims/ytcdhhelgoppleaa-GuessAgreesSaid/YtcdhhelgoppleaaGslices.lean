/- The abstract code of package slices, written by wip/tools/gen.py from the translation. -/
import Derived.Test.YtcdhhelgoppleaaI
namespace Go.Proofs.Ytcdhhelgoppleaa
open Go Go.Ab
/-! slices.Clone[[]parlance/api.Sym,parlance/api.Sym] -/
def F.slices_Clone_api_Sym_api_Sym.r0 : List DOp := [
 Dd 2 (.mv (.const (.slice none 0 0)))]
def F.slices_Clone_api_Sym_api_Sym.r1 : List DOp := [
 Dd 3 (.mv (.tmp 0)),
 Dd 4 (.eq false .slice (.tmp 3) (.const (.slice none 0 0)))]
def F.slices_Clone_api_Sym_api_Sym.r2 : List DOp := [
 Dd 2 (.mv (.const (.slice none 0 0)))]
def F.slices_Clone_api_Sym_api_Sym.r3 : List DOp := [
 Dd 5 (.bslice 2 0 [] []),
 Dd 6 (.mv (.tmp 0)),
 Dd 7 (.append 2 16 (.tmp 5) (.tmp 6)),
 Dd 2 (.mv (.tmp 7))]
def F.slices_Clone_api_Sym_api_Sym.c : ACode := .seq (.region F.slices_Clone_api_Sym_api_Sym.r0) (.seq (.seq (.region F.slices_Clone_api_Sym_api_Sym.r1) (.cond (.tmp 4) (.seq (.region F.slices_Clone_api_Sym_api_Sym.r2) (.ret)) (.skip))) (.seq (.region F.slices_Clone_api_Sym_api_Sym.r3) (.ret)))
def F.slices_Clone_api_Sym_api_Sym : AFunc := ⟨F.slices_Clone_api_Sym_api_Sym.c, [.tmp 2]⟩
/-! slices.ContainsFunc[[]int,int] -/
def F.slices_ContainsFunc_int_int.r0 : List DOp := [
 Dd 4 (.mv (.const (.bool false)))]
def F.slices_ContainsFunc_int_int.r1 : List DOp := [
 Dd 5 (.mv (.tmp 0)),
 Dd 6 (.mv (.tmp 1)),
 Dd 7 (.call I.slices_IndexFunc_int_int [.tmp 5, .tmp 6]),
 Dd 8 (.bin .geq (.tmp 7) (.const (.int .i64 0))),
 Dd 4 (.mv (.tmp 8))]
def F.slices_ContainsFunc_int_int.c : ACode := .seq (.region F.slices_ContainsFunc_int_int.r0) (.seq (.region F.slices_ContainsFunc_int_int.r1) (.ret))
def F.slices_ContainsFunc_int_int : AFunc := ⟨F.slices_ContainsFunc_int_int.c, [.tmp 4]⟩
/-! slices.DeleteFunc[[][]int,[]int] -/
def F.slices_DeleteFunc_int_int.r0 : List DOp := [
 Dd 4 (.mv (.const (.slice none 0 0)))]
def F.slices_DeleteFunc_int_int.r1 : List DOp := [
 Dd 8 (.mv (.tmp 0)),
 Dd 9 (.mv (.tmp 1)),
 Dd 10 (.call I.slices_IndexFunc_int_int_34 [.tmp 8, .tmp 9]),
 Dd 5 (.mv (.tmp 10))]
def F.slices_DeleteFunc_int_int.r2 : List DOp := [
 Dd 11 (.mv (.tmp 5)),
 Dd 12 (.bin .eql (.tmp 11) (.const (.int .i64 (-1))))]
def F.slices_DeleteFunc_int_int.r3 : List DOp := [
 Dd 13 (.mv (.tmp 0)),
 Dd 4 (.mv (.tmp 13))]
def F.slices_DeleteFunc_int_int.r4 : List DOp := [
 Dd 14 (.mv (.tmp 5)),
 Dd 15 (.bin .add (.tmp 14) (.const (.int .i64 1))),
 Dd 6 (.mv (.tmp 15))]
def F.slices_DeleteFunc_int_int.r5 : List DOp := [
 Dd 16 (.mv (.tmp 6)),
 Dd 17 (.mv (.tmp 0)),
 Dd 18 (.len (.tmp 17)),
 Dd 19 (.bin .lss (.tmp 16) (.tmp 18))]
def F.slices_DeleteFunc_int_int.r7 : List DOp := [
 Dd 22 (.mv (.tmp 0)),
 Dd 23 (.mv (.tmp 6)),
 Dd 24 (.idxs 1 (.tmp 22) (.tmp 23)),
 Dd 25 (.load 1 false (.tmp 24)),
 Dd 7 (.mv (.tmp 25))]
def F.slices_DeleteFunc_int_int.r8 : List DOp := [
 Dd 26 (.mv (.tmp 1)),
 Dd 27 (.mv (.tmp 7)),
 Dd 28 (.callv (.tmp 26) [.tmp 27]),
 Dd 29 (.un .not (.tmp 28))]
def F.slices_DeleteFunc_int_int.r9 : List DOp := [
 Dd 30 (.mv (.tmp 0)),
 Dd 31 (.mv (.tmp 5)),
 Dd 32 (.mv (.tmp 7)),
 Dd 33 (.idxs 1 (.tmp 30) (.tmp 31)),
 De (.store 1 (.tmp 33) (.tmp 32))]
def F.slices_DeleteFunc_int_int.r10 : List DOp := [
 Dd 34 (.mv (.tmp 5)),
 Dd 35 (.bin .add (.tmp 34) (.const (.int .i64 1))),
 Dd 5 (.mv (.tmp 35))]
def F.slices_DeleteFunc_int_int.r6 : List DOp := [
 Dd 20 (.mv (.tmp 6)),
 Dd 21 (.bin .add (.tmp 20) (.const (.int .i64 1))),
 Dd 6 (.mv (.tmp 21))]
def F.slices_DeleteFunc_int_int.L0 : ACode := .seq (.seq (.region F.slices_DeleteFunc_int_int.r5) (.cond (.tmp 19) (.skip) (.exit 0))) (.seq (.block 1 (.seq (.region F.slices_DeleteFunc_int_int.r7) (.seq (.region F.slices_DeleteFunc_int_int.r8) (.cond (.tmp 29) (.seq (.region F.slices_DeleteFunc_int_int.r9) (.region F.slices_DeleteFunc_int_int.r10)) (.skip))))) (.region F.slices_DeleteFunc_int_int.r6))
def F.slices_DeleteFunc_int_int.r11 : List DOp := [
 Dd 36 (.mv (.tmp 0)),
 Dd 37 (.mv (.tmp 5)),
 Dd 38 (.slice 1 (.tmp 36) (some (.tmp 37)) none),
 De (.clear 1 [.slice none 0 0] (.tmp 38))]
def F.slices_DeleteFunc_int_int.r12 : List DOp := [
 Dd 39 (.mv (.tmp 0)),
 Dd 40 (.mv (.tmp 5)),
 Dd 41 (.slice 1 (.tmp 39) none (some (.tmp 40))),
 Dd 4 (.mv (.tmp 41))]
def F.slices_DeleteFunc_int_int.c : ACode := .seq (.region F.slices_DeleteFunc_int_int.r0) (.seq (.region F.slices_DeleteFunc_int_int.r1) (.seq (.seq (.region F.slices_DeleteFunc_int_int.r2) (.cond (.tmp 12) (.seq (.region F.slices_DeleteFunc_int_int.r3) (.ret)) (.skip))) (.seq (.seq (.region F.slices_DeleteFunc_int_int.r4) (.block 0 (.loop F.slices_DeleteFunc_int_int.L0))) (.seq (.region F.slices_DeleteFunc_int_int.r11) (.seq (.region F.slices_DeleteFunc_int_int.r12) (.ret))))))
def F.slices_DeleteFunc_int_int : AFunc := ⟨F.slices_DeleteFunc_int_int.c, [.tmp 4]⟩
/-! slices.Concat[[][]int,[]int] -/
def F.slices_Concat_int_int.r0 : List DOp := [
 Dd 2 (.mv (.const (.slice none 0 0)))]
def F.slices_Concat_int_int.r1 : List DOp := [
 Dd 3 (.mv (.const (.int .i64 0)))]
def F.slices_Concat_int_int.r2 : List DOp := [
 Dd 9 (.mv (.tmp 0)),
 Dd 10 (.len (.tmp 9)),
 Dd 11 (.mv (.const (.int .i64 0)))]
def F.slices_Concat_int_int.r3 : List DOp := [
 Dd 12 (.bin .lss (.tmp 11) (.tmp 10))]
def F.slices_Concat_int_int.r4 : List DOp := [
 Dd 13 (.idxs 1 (.tmp 9) (.tmp 11)),
 Dd 14 (.load 1 false (.tmp 13)),
 Dd 5 (.mv (.tmp 14))]
def F.slices_Concat_int_int.r5 : List DOp := [
 Dd 15 (.mv (.tmp 3)),
 Dd 16 (.mv (.tmp 5)),
 Dd 17 (.len (.tmp 16)),
 Dd 18 (.bin .add (.tmp 15) (.tmp 17)),
 Dd 3 (.mv (.tmp 18))]
def F.slices_Concat_int_int.r6 : List DOp := [
 Dd 19 (.mv (.tmp 3)),
 Dd 20 (.bin .lss (.tmp 19) (.const (.int .i64 0)))]
def F.slices_Concat_int_int.r7 : List DOp := [
 Dd 21 (.iface 9 (.const (.string ({ data := #[108, 101, 110, 32, 111, 117, 116, 32, 111, 102, 32, 114, 97, 110, 103, 101] })))),
 De (.bad)]
def F.slices_Concat_int_int.r8 : List DOp := [
 Dd 22 (.bin .add (.tmp 11) (.const (.int .i64 1))),
 Dd 11 (.mv (.tmp 22))]
def F.slices_Concat_int_int.L0 : ACode := .seq (.region F.slices_Concat_int_int.r3) (.seq (.cond (.tmp 12) (.skip) (.exit 0)) (.seq (.block 1 (.seq (.region F.slices_Concat_int_int.r4) (.seq (.region F.slices_Concat_int_int.r5) (.seq (.region F.slices_Concat_int_int.r6) (.cond (.tmp 20) (.region F.slices_Concat_int_int.r7) (.skip)))))) (.region F.slices_Concat_int_int.r8)))
def F.slices_Concat_int_int.r9 : List DOp := [
 Dd 23 (.mv (.tmp 3)),
 Dd 24 (.call I.slices_Grow_int_int [.const (.slice none 0 0), .tmp 23]),
 Dd 6 (.mv (.tmp 24))]
def F.slices_Concat_int_int.r10 : List DOp := [
 Dd 25 (.mv (.tmp 0)),
 Dd 26 (.len (.tmp 25)),
 Dd 27 (.mv (.const (.int .i64 0)))]
def F.slices_Concat_int_int.r11 : List DOp := [
 Dd 28 (.bin .lss (.tmp 27) (.tmp 26))]
def F.slices_Concat_int_int.r12 : List DOp := [
 Dd 29 (.idxs 1 (.tmp 25) (.tmp 27)),
 Dd 30 (.load 1 false (.tmp 29)),
 Dd 8 (.mv (.tmp 30))]
def F.slices_Concat_int_int.r13 : List DOp := [
 Dd 31 (.mv (.tmp 6)),
 Dd 32 (.mv (.tmp 8)),
 Dd 33 (.append 1 24 (.tmp 31) (.tmp 32)),
 Dd 6 (.mv (.tmp 33))]
def F.slices_Concat_int_int.r14 : List DOp := [
 Dd 34 (.bin .add (.tmp 27) (.const (.int .i64 1))),
 Dd 27 (.mv (.tmp 34))]
def F.slices_Concat_int_int.L1 : ACode := .seq (.region F.slices_Concat_int_int.r11) (.seq (.cond (.tmp 28) (.skip) (.exit 2)) (.seq (.block 3 (.seq (.region F.slices_Concat_int_int.r12) (.region F.slices_Concat_int_int.r13))) (.region F.slices_Concat_int_int.r14)))
def F.slices_Concat_int_int.r15 : List DOp := [
 Dd 35 (.mv (.tmp 6)),
 Dd 2 (.mv (.tmp 35))]
def F.slices_Concat_int_int.c : ACode := .seq (.region F.slices_Concat_int_int.r0) (.seq (.region F.slices_Concat_int_int.r1) (.seq (.seq (.region F.slices_Concat_int_int.r2) (.block 0 (.loop F.slices_Concat_int_int.L0))) (.seq (.region F.slices_Concat_int_int.r9) (.seq (.seq (.region F.slices_Concat_int_int.r10) (.block 2 (.loop F.slices_Concat_int_int.L1))) (.seq (.region F.slices_Concat_int_int.r15) (.ret))))))
def F.slices_Concat_int_int : AFunc := ⟨F.slices_Concat_int_int.c, [.tmp 2]⟩
/-! slices.ContainsFunc[[][]int,[]int] -/
def F.slices_ContainsFunc_int_int_26.r0 : List DOp := [
 Dd 4 (.mv (.const (.bool false)))]
def F.slices_ContainsFunc_int_int_26.r1 : List DOp := [
 Dd 5 (.mv (.tmp 0)),
 Dd 6 (.mv (.tmp 1)),
 Dd 7 (.call I.slices_IndexFunc_int_int_34 [.tmp 5, .tmp 6]),
 Dd 8 (.bin .geq (.tmp 7) (.const (.int .i64 0))),
 Dd 4 (.mv (.tmp 8))]
def F.slices_ContainsFunc_int_int_26.c : ACode := .seq (.region F.slices_ContainsFunc_int_int_26.r0) (.seq (.region F.slices_ContainsFunc_int_int_26.r1) (.ret))
def F.slices_ContainsFunc_int_int_26 : AFunc := ⟨F.slices_ContainsFunc_int_int_26.c, [.tmp 4]⟩
/-! slices.Equal[[]int,int] -/
def F.slices_Equal_int_int.r0 : List DOp := [
 Dd 4 (.mv (.const (.bool false)))]
def F.slices_Equal_int_int.r1 : List DOp := [
 Dd 6 (.mv (.tmp 0)),
 Dd 7 (.len (.tmp 6)),
 Dd 8 (.mv (.tmp 1)),
 Dd 9 (.len (.tmp 8)),
 Dd 10 (.bin .neq (.tmp 7) (.tmp 9))]
def F.slices_Equal_int_int.r2 : List DOp := [
 Dd 4 (.mv (.const (.bool false)))]
def F.slices_Equal_int_int.r3 : List DOp := [
 Dd 11 (.mv (.tmp 0)),
 Dd 12 (.len (.tmp 11)),
 Dd 13 (.mv (.const (.int .i64 0)))]
def F.slices_Equal_int_int.r4 : List DOp := [
 Dd 14 (.bin .lss (.tmp 13) (.tmp 12))]
def F.slices_Equal_int_int.r5 : List DOp := [
 Dd 15 (.mv (.tmp 13)),
 Dd 5 (.mv (.tmp 15))]
def F.slices_Equal_int_int.r6 : List DOp := [
 Dd 16 (.mv (.tmp 0)),
 Dd 17 (.mv (.tmp 5)),
 Dd 18 (.idxs 1 (.tmp 16) (.tmp 17)),
 Dd 19 (.load 1 false (.tmp 18)),
 Dd 20 (.mv (.tmp 1)),
 Dd 21 (.mv (.tmp 5)),
 Dd 22 (.idxs 1 (.tmp 20) (.tmp 21)),
 Dd 23 (.load 1 false (.tmp 22)),
 Dd 24 (.bin .neq (.tmp 19) (.tmp 23))]
def F.slices_Equal_int_int.r7 : List DOp := [
 Dd 4 (.mv (.const (.bool false)))]
def F.slices_Equal_int_int.r8 : List DOp := [
 Dd 25 (.bin .add (.tmp 13) (.const (.int .i64 1))),
 Dd 13 (.mv (.tmp 25))]
def F.slices_Equal_int_int.L0 : ACode := .seq (.region F.slices_Equal_int_int.r4) (.seq (.cond (.tmp 14) (.skip) (.exit 0)) (.seq (.block 1 (.seq (.region F.slices_Equal_int_int.r5) (.seq (.draw F.slices_Equal_int_int.r6 []) (.cond (.tmp 24) (.seq (.region F.slices_Equal_int_int.r7) (.ret)) (.skip))))) (.region F.slices_Equal_int_int.r8)))
def F.slices_Equal_int_int.r9 : List DOp := [
 Dd 4 (.mv (.const (.bool true)))]
def F.slices_Equal_int_int.c : ACode := .seq (.region F.slices_Equal_int_int.r0) (.seq (.seq (.region F.slices_Equal_int_int.r1) (.cond (.tmp 10) (.seq (.region F.slices_Equal_int_int.r2) (.ret)) (.skip))) (.seq (.seq (.region F.slices_Equal_int_int.r3) (.block 0 (.loop F.slices_Equal_int_int.L0))) (.seq (.region F.slices_Equal_int_int.r9) (.ret))))
def F.slices_Equal_int_int : AFunc := ⟨F.slices_Equal_int_int.c, [.tmp 4]⟩
/-! slices.Clone[[]int,int] -/
def F.slices_Clone_int_int.r0 : List DOp := [
 Dd 2 (.mv (.const (.slice none 0 0)))]
def F.slices_Clone_int_int.r1 : List DOp := [
 Dd 3 (.mv (.tmp 0)),
 Dd 4 (.eq false .slice (.tmp 3) (.const (.slice none 0 0)))]
def F.slices_Clone_int_int.r2 : List DOp := [
 Dd 2 (.mv (.const (.slice none 0 0)))]
def F.slices_Clone_int_int.r3 : List DOp := [
 Dd 5 (.bslice 1 0 [] []),
 Dd 6 (.mv (.tmp 0)),
 Dd 7 (.append 1 8 (.tmp 5) (.tmp 6)),
 Dd 2 (.mv (.tmp 7))]
def F.slices_Clone_int_int.c : ACode := .seq (.region F.slices_Clone_int_int.r0) (.seq (.seq (.region F.slices_Clone_int_int.r1) (.cond (.tmp 4) (.seq (.region F.slices_Clone_int_int.r2) (.ret)) (.skip))) (.seq (.region F.slices_Clone_int_int.r3) (.ret)))
def F.slices_Clone_int_int : AFunc := ⟨F.slices_Clone_int_int.c, [.tmp 2]⟩
/-! slices.IndexFunc[[]int,int] -/
def F.slices_IndexFunc_int_int.r0 : List DOp := [
 Dd 4 (.mv (.const (.int .i64 0)))]
def F.slices_IndexFunc_int_int.r1 : List DOp := [
 Dd 6 (.mv (.tmp 0)),
 Dd 7 (.len (.tmp 6)),
 Dd 8 (.mv (.const (.int .i64 0)))]
def F.slices_IndexFunc_int_int.r2 : List DOp := [
 Dd 9 (.bin .lss (.tmp 8) (.tmp 7))]
def F.slices_IndexFunc_int_int.r3 : List DOp := [
 Dd 10 (.mv (.tmp 8)),
 Dd 5 (.mv (.tmp 10))]
def F.slices_IndexFunc_int_int.r4 : List DOp := [
 Dd 11 (.mv (.tmp 1)),
 Dd 12 (.mv (.tmp 0)),
 Dd 13 (.mv (.tmp 5)),
 Dd 14 (.idxs 1 (.tmp 12) (.tmp 13)),
 Dd 15 (.load 1 false (.tmp 14)),
 Dd 16 (.callv (.tmp 11) [.tmp 15])]
def F.slices_IndexFunc_int_int.r5 : List DOp := [
 Dd 17 (.mv (.tmp 5)),
 Dd 4 (.mv (.tmp 17))]
def F.slices_IndexFunc_int_int.r6 : List DOp := [
 Dd 18 (.bin .add (.tmp 8) (.const (.int .i64 1))),
 Dd 8 (.mv (.tmp 18))]
def F.slices_IndexFunc_int_int.L0 : ACode := .seq (.region F.slices_IndexFunc_int_int.r2) (.seq (.cond (.tmp 9) (.skip) (.exit 0)) (.seq (.block 1 (.seq (.region F.slices_IndexFunc_int_int.r3) (.seq (.region F.slices_IndexFunc_int_int.r4) (.cond (.tmp 16) (.seq (.region F.slices_IndexFunc_int_int.r5) (.ret)) (.skip))))) (.region F.slices_IndexFunc_int_int.r6)))
def F.slices_IndexFunc_int_int.r7 : List DOp := [
 Dd 4 (.mv (.const (.int .i64 (-1))))]
def F.slices_IndexFunc_int_int.c : ACode := .seq (.region F.slices_IndexFunc_int_int.r0) (.seq (.seq (.region F.slices_IndexFunc_int_int.r1) (.block 0 (.loop F.slices_IndexFunc_int_int.L0))) (.seq (.region F.slices_IndexFunc_int_int.r7) (.ret)))
def F.slices_IndexFunc_int_int : AFunc := ⟨F.slices_IndexFunc_int_int.c, [.tmp 4]⟩
/-! slices.IndexFunc[[][]int,[]int] -/
def F.slices_IndexFunc_int_int_34.r0 : List DOp := [
 Dd 4 (.mv (.const (.int .i64 0)))]
def F.slices_IndexFunc_int_int_34.r1 : List DOp := [
 Dd 6 (.mv (.tmp 0)),
 Dd 7 (.len (.tmp 6)),
 Dd 8 (.mv (.const (.int .i64 0)))]
def F.slices_IndexFunc_int_int_34.r2 : List DOp := [
 Dd 9 (.bin .lss (.tmp 8) (.tmp 7))]
def F.slices_IndexFunc_int_int_34.r3 : List DOp := [
 Dd 10 (.mv (.tmp 8)),
 Dd 5 (.mv (.tmp 10))]
def F.slices_IndexFunc_int_int_34.r4 : List DOp := [
 Dd 11 (.mv (.tmp 1)),
 Dd 12 (.mv (.tmp 0)),
 Dd 13 (.mv (.tmp 5)),
 Dd 14 (.idxs 1 (.tmp 12) (.tmp 13)),
 Dd 15 (.load 1 false (.tmp 14)),
 Dd 16 (.callv (.tmp 11) [.tmp 15])]
def F.slices_IndexFunc_int_int_34.r5 : List DOp := [
 Dd 17 (.mv (.tmp 5)),
 Dd 4 (.mv (.tmp 17))]
def F.slices_IndexFunc_int_int_34.r6 : List DOp := [
 Dd 18 (.bin .add (.tmp 8) (.const (.int .i64 1))),
 Dd 8 (.mv (.tmp 18))]
def F.slices_IndexFunc_int_int_34.L0 : ACode := .seq (.region F.slices_IndexFunc_int_int_34.r2) (.seq (.cond (.tmp 9) (.skip) (.exit 0)) (.seq (.block 1 (.seq (.region F.slices_IndexFunc_int_int_34.r3) (.seq (.region F.slices_IndexFunc_int_int_34.r4) (.cond (.tmp 16) (.seq (.region F.slices_IndexFunc_int_int_34.r5) (.ret)) (.skip))))) (.region F.slices_IndexFunc_int_int_34.r6)))
def F.slices_IndexFunc_int_int_34.r7 : List DOp := [
 Dd 4 (.mv (.const (.int .i64 (-1))))]
def F.slices_IndexFunc_int_int_34.c : ACode := .seq (.region F.slices_IndexFunc_int_int_34.r0) (.seq (.seq (.region F.slices_IndexFunc_int_int_34.r1) (.block 0 (.loop F.slices_IndexFunc_int_int_34.L0))) (.seq (.region F.slices_IndexFunc_int_int_34.r7) (.ret)))
def F.slices_IndexFunc_int_int_34 : AFunc := ⟨F.slices_IndexFunc_int_int_34.c, [.tmp 4]⟩
/-! slices.Grow[[][]int,[]int] -/
def F.slices_Grow_int_int.r0 : List DOp := [
 Dd 4 (.mv (.const (.slice none 0 0)))]
def F.slices_Grow_int_int.r1 : List DOp := [
 Dd 5 (.mv (.tmp 1)),
 Dd 6 (.bin .lss (.tmp 5) (.const (.int .i64 0)))]
def F.slices_Grow_int_int.r2 : List DOp := [
 Dd 7 (.iface 9 (.const (.string ({ data := #[99, 97, 110, 110, 111, 116, 32, 98, 101, 32, 110, 101, 103, 97, 116, 105, 118, 101] })))),
 De (.bad)]
def F.slices_Grow_int_int.r3 : List DOp := [
 Dd 8 (.mv (.tmp 1)),
 Dd 9 (.mv (.tmp 0)),
 Dd 10 (.capn (.tmp 9)),
 Dd 11 (.mv (.tmp 0)),
 Dd 12 (.len (.tmp 11)),
 Dd 13 (.bin .sub (.tmp 10) (.tmp 12)),
 Dd 14 (.bin .sub (.tmp 8) (.tmp 13)),
 Dd 1 (.mv (.tmp 14))]
def F.slices_Grow_int_int.r4 : List DOp := [
 Dd 15 (.mv (.tmp 1)),
 Dd 16 (.bin .gtr (.tmp 15) (.const (.int .i64 0)))]
def F.slices_Grow_int_int.r5 : List DOp := [
 Dd 17 (.mv (.tmp 0)),
 Dd 18 (.mv (.tmp 0)),
 Dd 19 (.capn (.tmp 18)),
 Dd 20 (.slice 1 (.tmp 17) none (some (.tmp 19))),
 Dd 21 (.mv (.tmp 1)),
 Dd 22 (.appz 1 24 [.slice none 0 0] (.tmp 20) (.tmp 21)),
 Dd 23 (.mv (.tmp 0)),
 Dd 24 (.len (.tmp 23)),
 Dd 25 (.slice 1 (.tmp 22) none (some (.tmp 24))),
 Dd 0 (.mv (.tmp 25))]
def F.slices_Grow_int_int.r6 : List DOp := [
 Dd 26 (.mv (.tmp 0)),
 Dd 4 (.mv (.tmp 26))]
def F.slices_Grow_int_int.c : ACode := .seq (.region F.slices_Grow_int_int.r0) (.seq (.seq (.region F.slices_Grow_int_int.r1) (.cond (.tmp 6) (.region F.slices_Grow_int_int.r2) (.skip))) (.seq (.seq (.region F.slices_Grow_int_int.r3) (.seq (.region F.slices_Grow_int_int.r4) (.cond (.tmp 16) (.region F.slices_Grow_int_int.r5) (.skip)))) (.seq (.region F.slices_Grow_int_int.r6) (.ret))))
def F.slices_Grow_int_int : AFunc := ⟨F.slices_Grow_int_int.c, [.tmp 4]⟩
/-! slices.CompareFunc[[]parlance/api.Sym,[]parlance/api.Sym,parlance/api.Sym,parlance/api.Sym] -/
def F.slices_CompareFunc_api_Sym_api_Sym_api_Sym_api_Sym.r0 : List DOp := [
 Dd 6 (.mv (.const (.int .i64 0)))]
def F.slices_CompareFunc_api_Sym_api_Sym_api_Sym_api_Sym.r1 : List DOp := [
 Dd 11 (.mv (.tmp 0)),
 Dd 12 (.len (.tmp 11)),
 Dd 13 (.mv (.const (.int .i64 0)))]
def F.slices_CompareFunc_api_Sym_api_Sym_api_Sym_api_Sym.r2 : List DOp := [
 Dd 14 (.bin .lss (.tmp 13) (.tmp 12))]
def F.slices_CompareFunc_api_Sym_api_Sym_api_Sym_api_Sym.r3 : List DOp := [
 Dd 15 (.mv (.tmp 13)),
 Dd 16 (.idxs 2 (.tmp 11) (.tmp 13)),
 Dd 17 (.load 2 true (.tmp 16)),
 Dd 8 (.alloc [.bool false, .int .i64 0]),
 Dd 7 (.mv (.tmp 15)),
 De (.store 2 (.tmp 8) (.tmp 17))]
def F.slices_CompareFunc_api_Sym_api_Sym_api_Sym_api_Sym.r4 : List DOp := [
 Dd 18 (.mv (.tmp 7)),
 Dd 19 (.mv (.tmp 1)),
 Dd 20 (.len (.tmp 19)),
 Dd 21 (.bin .geq (.tmp 18) (.tmp 20))]
def F.slices_CompareFunc_api_Sym_api_Sym_api_Sym_api_Sym.r5 : List DOp := [
 Dd 6 (.mv (.const (.int .i64 1)))]
def F.slices_CompareFunc_api_Sym_api_Sym_api_Sym_api_Sym.r6 : List DOp := [
 Dd 22 (.mv (.tmp 1)),
 Dd 23 (.mv (.tmp 7)),
 Dd 24 (.idxs 2 (.tmp 22) (.tmp 23)),
 Dd 25 (.load 2 true (.tmp 24)),
 Dd 9 (.alloc [.bool false, .int .i64 0]),
 De (.store 2 (.tmp 9) (.tmp 25))]
def F.slices_CompareFunc_api_Sym_api_Sym_api_Sym_api_Sym.r7 : List DOp := [
 Dd 26 (.mv (.tmp 2)),
 Dd 27 (.load 2 true (.tmp 8)),
 Dd 28 (.load 2 true (.tmp 9)),
 Dd 29 (.callv (.tmp 26) [.tmp 27, .tmp 28]),
 Dd 10 (.mv (.tmp 29))]
def F.slices_CompareFunc_api_Sym_api_Sym_api_Sym_api_Sym.r8 : List DOp := [
 Dd 30 (.mv (.tmp 10)),
 Dd 31 (.bin .neq (.tmp 30) (.const (.int .i64 0)))]
def F.slices_CompareFunc_api_Sym_api_Sym_api_Sym_api_Sym.r9 : List DOp := [
 Dd 32 (.mv (.tmp 10)),
 Dd 6 (.mv (.tmp 32))]
def F.slices_CompareFunc_api_Sym_api_Sym_api_Sym_api_Sym.r10 : List DOp := [
 Dd 33 (.bin .add (.tmp 13) (.const (.int .i64 1))),
 Dd 13 (.mv (.tmp 33))]
def F.slices_CompareFunc_api_Sym_api_Sym_api_Sym_api_Sym.L0 : ACode := .seq (.region F.slices_CompareFunc_api_Sym_api_Sym_api_Sym_api_Sym.r2) (.seq (.cond (.tmp 14) (.skip) (.exit 0)) (.seq (.block 1 (.seq (.region F.slices_CompareFunc_api_Sym_api_Sym_api_Sym_api_Sym.r3) (.seq (.seq (.region F.slices_CompareFunc_api_Sym_api_Sym_api_Sym_api_Sym.r4) (.cond (.tmp 21) (.seq (.region F.slices_CompareFunc_api_Sym_api_Sym_api_Sym_api_Sym.r5) (.ret)) (.skip))) (.seq (.region F.slices_CompareFunc_api_Sym_api_Sym_api_Sym_api_Sym.r6) (.seq (.region F.slices_CompareFunc_api_Sym_api_Sym_api_Sym_api_Sym.r7) (.seq (.region F.slices_CompareFunc_api_Sym_api_Sym_api_Sym_api_Sym.r8) (.cond (.tmp 31) (.seq (.region F.slices_CompareFunc_api_Sym_api_Sym_api_Sym_api_Sym.r9) (.ret)) (.skip)))))))) (.region F.slices_CompareFunc_api_Sym_api_Sym_api_Sym_api_Sym.r10)))
def F.slices_CompareFunc_api_Sym_api_Sym_api_Sym_api_Sym.r11 : List DOp := [
 Dd 34 (.mv (.tmp 0)),
 Dd 35 (.len (.tmp 34)),
 Dd 36 (.mv (.tmp 1)),
 Dd 37 (.len (.tmp 36)),
 Dd 38 (.bin .lss (.tmp 35) (.tmp 37))]
def F.slices_CompareFunc_api_Sym_api_Sym_api_Sym_api_Sym.r12 : List DOp := [
 Dd 6 (.mv (.const (.int .i64 (-1))))]
def F.slices_CompareFunc_api_Sym_api_Sym_api_Sym_api_Sym.r13 : List DOp := [
 Dd 6 (.mv (.const (.int .i64 0)))]
def F.slices_CompareFunc_api_Sym_api_Sym_api_Sym_api_Sym.c : ACode := .seq (.region F.slices_CompareFunc_api_Sym_api_Sym_api_Sym_api_Sym.r0) (.seq (.seq (.region F.slices_CompareFunc_api_Sym_api_Sym_api_Sym_api_Sym.r1) (.block 0 (.loop F.slices_CompareFunc_api_Sym_api_Sym_api_Sym_api_Sym.L0))) (.seq (.seq (.region F.slices_CompareFunc_api_Sym_api_Sym_api_Sym_api_Sym.r11) (.cond (.tmp 38) (.seq (.region F.slices_CompareFunc_api_Sym_api_Sym_api_Sym_api_Sym.r12) (.ret)) (.skip))) (.seq (.region F.slices_CompareFunc_api_Sym_api_Sym_api_Sym_api_Sym.r13) (.ret))))
def F.slices_CompareFunc_api_Sym_api_Sym_api_Sym_api_Sym : AFunc := ⟨F.slices_CompareFunc_api_Sym_api_Sym_api_Sym_api_Sym.c, [.tmp 6]⟩
end Go.Proofs.Ytcdhhelgoppleaa
