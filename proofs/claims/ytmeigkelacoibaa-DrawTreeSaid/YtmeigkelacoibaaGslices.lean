import Derived.Test.YtmeigkelacoibaaI
namespace Go.Proofs.Ytmeigkelacoibaa
open Go Go.Ab
def F.slices_Compare_int_int.r0 : List DOp := [
 Dd 4 (.mv (.const (.int .i64 0)))]
def F.slices_Compare_int_int.r1 : List DOp := [
 Dd 9 (.mv (.tmp 0)),
 Dd 10 (.len (.tmp 9)),
 Dd 11 (.mv (.const (.int .i64 0)))]
def F.slices_Compare_int_int.r2 : List DOp := [
 Dd 12 (.bin .lss (.tmp 11) (.tmp 10))]
def F.slices_Compare_int_int.r3 : List DOp := [
 Dd 13 (.mv (.tmp 11)),
 Dd 14 (.idxs 1 (.tmp 9) (.tmp 11)),
 Dd 15 (.load 1 false (.tmp 14)),
 Dd 5 (.mv (.tmp 13)),
 Dd 6 (.mv (.tmp 15))]
def F.slices_Compare_int_int.r4 : List DOp := [
 Dd 16 (.mv (.tmp 5)),
 Dd 17 (.mv (.tmp 1)),
 Dd 18 (.len (.tmp 17)),
 Dd 19 (.bin .geq (.tmp 16) (.tmp 18))]
def F.slices_Compare_int_int.r5 : List DOp := [
 Dd 4 (.mv (.const (.int .i64 1)))]
def F.slices_Compare_int_int.r6 : List DOp := [
 Dd 20 (.mv (.tmp 1)),
 Dd 21 (.mv (.tmp 5)),
 Dd 22 (.idxs 1 (.tmp 20) (.tmp 21)),
 Dd 23 (.load 1 false (.tmp 22)),
 Dd 7 (.mv (.tmp 23))]
def F.slices_Compare_int_int.r7 : List DOp := [
 Dd 24 (.mv (.tmp 6)),
 Dd 25 (.mv (.tmp 7)),
 Dd 26 (.call I.cmp_Compare_int [.tmp 24, .tmp 25]),
 Dd 8 (.mv (.tmp 26))]
def F.slices_Compare_int_int.r8 : List DOp := [
 Dd 27 (.mv (.tmp 8)),
 Dd 28 (.bin .neq (.tmp 27) (.const (.int .i64 0)))]
def F.slices_Compare_int_int.r9 : List DOp := [
 Dd 29 (.mv (.tmp 8)),
 Dd 4 (.mv (.tmp 29))]
def F.slices_Compare_int_int.r10 : List DOp := [
 Dd 30 (.bin .add (.tmp 11) (.const (.int .i64 1))),
 Dd 11 (.mv (.tmp 30))]
def F.slices_Compare_int_int.L0 : ACode := .seq (.region F.slices_Compare_int_int.r2) (.seq (.cond (.tmp 12) (.skip) (.exit 0)) (.seq (.block 1 (.seq (.region F.slices_Compare_int_int.r3) (.seq (.seq (.region F.slices_Compare_int_int.r4) (.cond (.tmp 19) (.seq (.region F.slices_Compare_int_int.r5) (.ret)) (.skip))) (.seq (.region F.slices_Compare_int_int.r6) (.seq (.region F.slices_Compare_int_int.r7) (.seq (.region F.slices_Compare_int_int.r8) (.cond (.tmp 28) (.seq (.region F.slices_Compare_int_int.r9) (.ret)) (.skip)))))))) (.region F.slices_Compare_int_int.r10)))
def F.slices_Compare_int_int.r11 : List DOp := [
 Dd 31 (.mv (.tmp 0)),
 Dd 32 (.len (.tmp 31)),
 Dd 33 (.mv (.tmp 1)),
 Dd 34 (.len (.tmp 33)),
 Dd 35 (.bin .lss (.tmp 32) (.tmp 34))]
def F.slices_Compare_int_int.r12 : List DOp := [
 Dd 4 (.mv (.const (.int .i64 (-1))))]
def F.slices_Compare_int_int.r13 : List DOp := [
 Dd 4 (.mv (.const (.int .i64 0)))]
def F.slices_Compare_int_int.c : ACode := .seq (.region F.slices_Compare_int_int.r0) (.seq (.seq (.region F.slices_Compare_int_int.r1) (.block 0 (.loop F.slices_Compare_int_int.L0))) (.seq (.seq (.region F.slices_Compare_int_int.r11) (.cond (.tmp 35) (.seq (.region F.slices_Compare_int_int.r12) (.ret)) (.skip))) (.seq (.region F.slices_Compare_int_int.r13) (.ret))))
def F.slices_Compare_int_int : AFunc := ⟨F.slices_Compare_int_int.c, [.tmp 4]⟩
def F.slices_CompareFunc_api_Sym_api_Sym_api_Sym_api_Sym.r0 : List DOp := [
 Dd 6 (.mv (.const (.int .i64 0)))]
def F.slices_CompareFunc_api_Sym_api_Sym_api_Sym_api_Sym.r1 : List DOp := [
 Dd 11 (.mv (.tmp 0)),
 Dd 12 (.len (.tmp 11)),
 Dd 13 (.mv (.const (.int .i64 0)))]
def F.slices_CompareFunc_api_Sym_api_Sym_api_Sym_api_Sym.r2 : List DOp := [
 Dd 14 (.bin .lss (.tmp 13) (.tmp 12))]
def F.slices_CompareFunc_api_Sym_api_Sym_api_Sym_api_Sym.r3 : List DOp := [
 Dd 15 (.mv (.tmp 13)),
 Dd 16 (.idxs 2 (.tmp 11) (.tmp 13)),
 Dd 17 (.load 2 true (.tmp 16)),
 Dd 8 (.alloc [.bool false, .int .i64 0]),
 Dd 7 (.mv (.tmp 15)),
 De (.store 2 (.tmp 8) (.tmp 17))]
def F.slices_CompareFunc_api_Sym_api_Sym_api_Sym_api_Sym.r4 : List DOp := [
 Dd 18 (.mv (.tmp 7)),
 Dd 19 (.mv (.tmp 1)),
 Dd 20 (.len (.tmp 19)),
 Dd 21 (.bin .geq (.tmp 18) (.tmp 20))]
def F.slices_CompareFunc_api_Sym_api_Sym_api_Sym_api_Sym.r5 : List DOp := [
 Dd 6 (.mv (.const (.int .i64 1)))]
def F.slices_CompareFunc_api_Sym_api_Sym_api_Sym_api_Sym.r6 : List DOp := [
 Dd 22 (.mv (.tmp 1)),
 Dd 23 (.mv (.tmp 7)),
 Dd 24 (.idxs 2 (.tmp 22) (.tmp 23)),
 Dd 25 (.load 2 true (.tmp 24)),
 Dd 9 (.alloc [.bool false, .int .i64 0]),
 De (.store 2 (.tmp 9) (.tmp 25))]
def F.slices_CompareFunc_api_Sym_api_Sym_api_Sym_api_Sym.r7 : List DOp := [
 Dd 26 (.mv (.tmp 2)),
 Dd 27 (.load 2 true (.tmp 8)),
 Dd 28 (.load 2 true (.tmp 9)),
 Dd 29 (.callv (.tmp 26) [.tmp 27, .tmp 28]),
 Dd 10 (.mv (.tmp 29))]
def F.slices_CompareFunc_api_Sym_api_Sym_api_Sym_api_Sym.r8 : List DOp := [
 Dd 30 (.mv (.tmp 10)),
 Dd 31 (.bin .neq (.tmp 30) (.const (.int .i64 0)))]
def F.slices_CompareFunc_api_Sym_api_Sym_api_Sym_api_Sym.r9 : List DOp := [
 Dd 32 (.mv (.tmp 10)),
 Dd 6 (.mv (.tmp 32))]
def F.slices_CompareFunc_api_Sym_api_Sym_api_Sym_api_Sym.r10 : List DOp := [
 Dd 33 (.bin .add (.tmp 13) (.const (.int .i64 1))),
 Dd 13 (.mv (.tmp 33))]
def F.slices_CompareFunc_api_Sym_api_Sym_api_Sym_api_Sym.L0 : ACode := .seq (.region F.slices_CompareFunc_api_Sym_api_Sym_api_Sym_api_Sym.r2) (.seq (.cond (.tmp 14) (.skip) (.exit 0)) (.seq (.block 1 (.seq (.region F.slices_CompareFunc_api_Sym_api_Sym_api_Sym_api_Sym.r3) (.seq (.seq (.region F.slices_CompareFunc_api_Sym_api_Sym_api_Sym_api_Sym.r4) (.cond (.tmp 21) (.seq (.region F.slices_CompareFunc_api_Sym_api_Sym_api_Sym_api_Sym.r5) (.ret)) (.skip))) (.seq (.region F.slices_CompareFunc_api_Sym_api_Sym_api_Sym_api_Sym.r6) (.seq (.region F.slices_CompareFunc_api_Sym_api_Sym_api_Sym_api_Sym.r7) (.seq (.region F.slices_CompareFunc_api_Sym_api_Sym_api_Sym_api_Sym.r8) (.cond (.tmp 31) (.seq (.region F.slices_CompareFunc_api_Sym_api_Sym_api_Sym_api_Sym.r9) (.ret)) (.skip)))))))) (.region F.slices_CompareFunc_api_Sym_api_Sym_api_Sym_api_Sym.r10)))
def F.slices_CompareFunc_api_Sym_api_Sym_api_Sym_api_Sym.r11 : List DOp := [
 Dd 34 (.mv (.tmp 0)),
 Dd 35 (.len (.tmp 34)),
 Dd 36 (.mv (.tmp 1)),
 Dd 37 (.len (.tmp 36)),
 Dd 38 (.bin .lss (.tmp 35) (.tmp 37))]
def F.slices_CompareFunc_api_Sym_api_Sym_api_Sym_api_Sym.r12 : List DOp := [
 Dd 6 (.mv (.const (.int .i64 (-1))))]
def F.slices_CompareFunc_api_Sym_api_Sym_api_Sym_api_Sym.r13 : List DOp := [
 Dd 6 (.mv (.const (.int .i64 0)))]
def F.slices_CompareFunc_api_Sym_api_Sym_api_Sym_api_Sym.c : ACode := .seq (.region F.slices_CompareFunc_api_Sym_api_Sym_api_Sym_api_Sym.r0) (.seq (.seq (.region F.slices_CompareFunc_api_Sym_api_Sym_api_Sym_api_Sym.r1) (.block 0 (.loop F.slices_CompareFunc_api_Sym_api_Sym_api_Sym_api_Sym.L0))) (.seq (.seq (.region F.slices_CompareFunc_api_Sym_api_Sym_api_Sym_api_Sym.r11) (.cond (.tmp 38) (.seq (.region F.slices_CompareFunc_api_Sym_api_Sym_api_Sym_api_Sym.r12) (.ret)) (.skip))) (.seq (.region F.slices_CompareFunc_api_Sym_api_Sym_api_Sym_api_Sym.r13) (.ret))))
def F.slices_CompareFunc_api_Sym_api_Sym_api_Sym_api_Sym : AFunc := ⟨F.slices_CompareFunc_api_Sym_api_Sym_api_Sym_api_Sym.c, [.tmp 6]⟩
end Go.Proofs.Ytmeigkelacoibaa
