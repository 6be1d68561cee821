/- The abstract code of package slices, written by wip/tools/gen.py from the translation. -/
import Derived.Test.YthgdobdhdfjhfaaI
namespace Go.Proofs.Ythgdobdhdfjhfaa
open Go Go.Ab
/-! slices.Concat[[]parlance/api.Rule,parlance/api.Rule] -/
def F.slices_Concat_api_Rule_api_Rule.r0 : List DOp := [
  ⟨some 2, .mv (.const (.slice none 0 0)), none, []⟩]
def F.slices_Concat_api_Rule_api_Rule.r1 : List DOp := [
  ⟨some 3, .mv (.const (.int .i64 0)), none, []⟩]
def F.slices_Concat_api_Rule_api_Rule.r2 : List DOp := [
  ⟨some 9, .mv (.tmp 0), none, []⟩,
  ⟨some 10, .len (.tmp 9), none, []⟩,
  ⟨some 11, .mv (.const (.int .i64 0)), none, []⟩]
def F.slices_Concat_api_Rule_api_Rule.r3 : List DOp := [
  ⟨some 12, .bin .lss (.tmp 11) (.tmp 10), none, []⟩]
def F.slices_Concat_api_Rule_api_Rule.r4 : List DOp := [
  ⟨some 13, .idxs 1 (.tmp 9) (.tmp 11), none, []⟩,
  ⟨some 14, .load 1 false (.tmp 13), none, []⟩,
  ⟨some 5, .mv (.tmp 14), none, []⟩]
def F.slices_Concat_api_Rule_api_Rule.r5 : List DOp := [
  ⟨some 15, .mv (.tmp 3), none, []⟩,
  ⟨some 16, .mv (.tmp 5), none, []⟩,
  ⟨some 17, .len (.tmp 16), none, []⟩,
  ⟨some 18, .bin .add (.tmp 15) (.tmp 17), none, []⟩,
  ⟨some 3, .mv (.tmp 18), none, []⟩]
def F.slices_Concat_api_Rule_api_Rule.r6 : List DOp := [
  ⟨some 19, .mv (.tmp 3), none, []⟩,
  ⟨some 20, .bin .lss (.tmp 19) (.const (.int .i64 0)), none, []⟩]
def F.slices_Concat_api_Rule_api_Rule.r7 : List DOp := [
  ⟨some 21, .iface 9 (.const (.string ({ data := #[108, 101, 110, 32, 111, 117, 116, 32, 111, 102, 32, 114, 97, 110, 103, 101] }))), none, []⟩,
  ⟨none, .bad, none, []⟩]
def F.slices_Concat_api_Rule_api_Rule.r8 : List DOp := [
  ⟨some 22, .bin .add (.tmp 11) (.const (.int .i64 1)), none, []⟩,
  ⟨some 11, .mv (.tmp 22), none, []⟩]
def F.slices_Concat_api_Rule_api_Rule.L0 : ACode := .seq (.region F.slices_Concat_api_Rule_api_Rule.r3) (.seq (.cond (.tmp 12) (.skip) (.exit 0)) (.seq (.block 1 (.seq (.region F.slices_Concat_api_Rule_api_Rule.r4) (.seq (.region F.slices_Concat_api_Rule_api_Rule.r5) (.seq (.region F.slices_Concat_api_Rule_api_Rule.r6) (.cond (.tmp 20) (.region F.slices_Concat_api_Rule_api_Rule.r7) (.skip)))))) (.region F.slices_Concat_api_Rule_api_Rule.r8)))
def F.slices_Concat_api_Rule_api_Rule.r9 : List DOp := [
  ⟨some 23, .mv (.tmp 3), none, []⟩,
  ⟨some 24, .call I.slices_Grow_api_Rule_api_Rule [.const (.slice none 0 0), .tmp 23], none, []⟩,
  ⟨some 6, .mv (.tmp 24), none, []⟩]
def F.slices_Concat_api_Rule_api_Rule.r10 : List DOp := [
  ⟨some 25, .mv (.tmp 0), none, []⟩,
  ⟨some 26, .len (.tmp 25), none, []⟩,
  ⟨some 27, .mv (.const (.int .i64 0)), none, []⟩]
def F.slices_Concat_api_Rule_api_Rule.r11 : List DOp := [
  ⟨some 28, .bin .lss (.tmp 27) (.tmp 26), none, []⟩]
def F.slices_Concat_api_Rule_api_Rule.r12 : List DOp := [
  ⟨some 29, .idxs 1 (.tmp 25) (.tmp 27), none, []⟩,
  ⟨some 30, .load 1 false (.tmp 29), none, []⟩,
  ⟨some 8, .mv (.tmp 30), none, []⟩]
def F.slices_Concat_api_Rule_api_Rule.r13 : List DOp := [
  ⟨some 31, .mv (.tmp 6), none, []⟩,
  ⟨some 32, .mv (.tmp 8), none, []⟩,
  ⟨some 33, .append 2 32 (.tmp 31) (.tmp 32), none, []⟩,
  ⟨some 6, .mv (.tmp 33), none, []⟩]
def F.slices_Concat_api_Rule_api_Rule.r14 : List DOp := [
  ⟨some 34, .bin .add (.tmp 27) (.const (.int .i64 1)), none, []⟩,
  ⟨some 27, .mv (.tmp 34), none, []⟩]
def F.slices_Concat_api_Rule_api_Rule.L1 : ACode := .seq (.region F.slices_Concat_api_Rule_api_Rule.r11) (.seq (.cond (.tmp 28) (.skip) (.exit 2)) (.seq (.block 3 (.seq (.region F.slices_Concat_api_Rule_api_Rule.r12) (.region F.slices_Concat_api_Rule_api_Rule.r13))) (.region F.slices_Concat_api_Rule_api_Rule.r14)))
def F.slices_Concat_api_Rule_api_Rule.r15 : List DOp := [
  ⟨some 35, .mv (.tmp 6), none, []⟩,
  ⟨some 2, .mv (.tmp 35), none, []⟩]
def F.slices_Concat_api_Rule_api_Rule.c : ACode := .seq (.region F.slices_Concat_api_Rule_api_Rule.r0) (.seq (.region F.slices_Concat_api_Rule_api_Rule.r1) (.seq (.seq (.region F.slices_Concat_api_Rule_api_Rule.r2) (.block 0 (.loop F.slices_Concat_api_Rule_api_Rule.L0))) (.seq (.region F.slices_Concat_api_Rule_api_Rule.r9) (.seq (.seq (.region F.slices_Concat_api_Rule_api_Rule.r10) (.block 2 (.loop F.slices_Concat_api_Rule_api_Rule.L1))) (.seq (.region F.slices_Concat_api_Rule_api_Rule.r15) (.ret))))))
def F.slices_Concat_api_Rule_api_Rule : AFunc := ⟨F.slices_Concat_api_Rule_api_Rule.c, [.tmp 2]⟩
/-! slices.Grow[[]parlance/api.Rule,parlance/api.Rule] -/
def F.slices_Grow_api_Rule_api_Rule.r0 : List DOp := [
  ⟨some 4, .mv (.const (.slice none 0 0)), none, []⟩]
def F.slices_Grow_api_Rule_api_Rule.r1 : List DOp := [
  ⟨some 5, .mv (.tmp 1), none, []⟩,
  ⟨some 6, .bin .lss (.tmp 5) (.const (.int .i64 0)), none, []⟩]
def F.slices_Grow_api_Rule_api_Rule.r2 : List DOp := [
  ⟨some 7, .iface 9 (.const (.string ({ data := #[99, 97, 110, 110, 111, 116, 32, 98, 101, 32, 110, 101, 103, 97, 116, 105, 118, 101] }))), none, []⟩,
  ⟨none, .bad, none, []⟩]
def F.slices_Grow_api_Rule_api_Rule.r3 : List DOp := [
  ⟨some 8, .mv (.tmp 1), none, []⟩,
  ⟨some 9, .mv (.tmp 0), none, []⟩,
  ⟨some 10, .capn (.tmp 9), none, []⟩,
  ⟨some 11, .mv (.tmp 0), none, []⟩,
  ⟨some 12, .len (.tmp 11), none, []⟩,
  ⟨some 13, .bin .sub (.tmp 10) (.tmp 12), none, []⟩,
  ⟨some 14, .bin .sub (.tmp 8) (.tmp 13), none, []⟩,
  ⟨some 1, .mv (.tmp 14), none, []⟩]
def F.slices_Grow_api_Rule_api_Rule.r4 : List DOp := [
  ⟨some 15, .mv (.tmp 1), none, []⟩,
  ⟨some 16, .bin .gtr (.tmp 15) (.const (.int .i64 0)), none, []⟩]
def F.slices_Grow_api_Rule_api_Rule.r5 : List DOp := [
  ⟨some 17, .mv (.tmp 0), none, []⟩,
  ⟨some 18, .mv (.tmp 0), none, []⟩,
  ⟨some 19, .capn (.tmp 18), none, []⟩,
  ⟨some 20, .slice 2 (.tmp 17) none (some (.tmp 19)), none, []⟩,
  ⟨some 21, .mv (.tmp 1), none, []⟩,
  ⟨some 22, .appz 2 32 [.int .i64 0, .slice none 0 0] (.tmp 20) (.tmp 21), none, []⟩,
  ⟨some 23, .mv (.tmp 0), none, []⟩,
  ⟨some 24, .len (.tmp 23), none, []⟩,
  ⟨some 25, .slice 2 (.tmp 22) none (some (.tmp 24)), none, []⟩,
  ⟨some 0, .mv (.tmp 25), none, []⟩]
def F.slices_Grow_api_Rule_api_Rule.r6 : List DOp := [
  ⟨some 26, .mv (.tmp 0), none, []⟩,
  ⟨some 4, .mv (.tmp 26), none, []⟩]
def F.slices_Grow_api_Rule_api_Rule.c : ACode := .seq (.region F.slices_Grow_api_Rule_api_Rule.r0) (.seq (.seq (.region F.slices_Grow_api_Rule_api_Rule.r1) (.cond (.tmp 6) (.region F.slices_Grow_api_Rule_api_Rule.r2) (.skip))) (.seq (.seq (.region F.slices_Grow_api_Rule_api_Rule.r3) (.seq (.region F.slices_Grow_api_Rule_api_Rule.r4) (.cond (.tmp 16) (.region F.slices_Grow_api_Rule_api_Rule.r5) (.skip)))) (.seq (.region F.slices_Grow_api_Rule_api_Rule.r6) (.ret))))
def F.slices_Grow_api_Rule_api_Rule : AFunc := ⟨F.slices_Grow_api_Rule_api_Rule.c, [.tmp 4]⟩
/-! slices.CompareFunc[[]parlance/api.Sym,[]parlance/api.Sym,parlance/api.Sym,parlance/api.Sym] -/
def F.slices_CompareFunc_api_Sym_api_Sym_api_Sym_api_Sym.r0 : List DOp := [
  ⟨some 6, .mv (.const (.int .i64 0)), none, []⟩]
def F.slices_CompareFunc_api_Sym_api_Sym_api_Sym_api_Sym.r1 : List DOp := [
  ⟨some 11, .mv (.tmp 0), none, []⟩,
  ⟨some 12, .len (.tmp 11), none, []⟩,
  ⟨some 13, .mv (.const (.int .i64 0)), none, []⟩]
def F.slices_CompareFunc_api_Sym_api_Sym_api_Sym_api_Sym.r2 : List DOp := [
  ⟨some 14, .bin .lss (.tmp 13) (.tmp 12), none, []⟩]
def F.slices_CompareFunc_api_Sym_api_Sym_api_Sym_api_Sym.r3 : List DOp := [
  ⟨some 15, .mv (.tmp 13), none, []⟩,
  ⟨some 16, .idxs 2 (.tmp 11) (.tmp 13), none, []⟩,
  ⟨some 17, .load 2 true (.tmp 16), none, []⟩,
  ⟨some 8, .alloc [.bool false, .int .i64 0], none, []⟩,
  ⟨some 7, .mv (.tmp 15), none, []⟩,
  ⟨none, .store 2 (.tmp 8) (.tmp 17), none, []⟩]
def F.slices_CompareFunc_api_Sym_api_Sym_api_Sym_api_Sym.r4 : List DOp := [
  ⟨some 18, .mv (.tmp 7), none, []⟩,
  ⟨some 19, .mv (.tmp 1), none, []⟩,
  ⟨some 20, .len (.tmp 19), none, []⟩,
  ⟨some 21, .bin .geq (.tmp 18) (.tmp 20), none, []⟩]
def F.slices_CompareFunc_api_Sym_api_Sym_api_Sym_api_Sym.r5 : List DOp := [
  ⟨some 6, .mv (.const (.int .i64 1)), none, []⟩]
def F.slices_CompareFunc_api_Sym_api_Sym_api_Sym_api_Sym.r6 : List DOp := [
  ⟨some 22, .mv (.tmp 1), none, []⟩,
  ⟨some 23, .mv (.tmp 7), none, []⟩,
  ⟨some 24, .idxs 2 (.tmp 22) (.tmp 23), none, []⟩,
  ⟨some 25, .load 2 true (.tmp 24), none, []⟩,
  ⟨some 9, .alloc [.bool false, .int .i64 0], none, []⟩,
  ⟨none, .store 2 (.tmp 9) (.tmp 25), none, []⟩]
def F.slices_CompareFunc_api_Sym_api_Sym_api_Sym_api_Sym.r7 : List DOp := [
  ⟨some 26, .mv (.tmp 2), none, []⟩,
  ⟨some 27, .load 2 true (.tmp 8), none, []⟩,
  ⟨some 28, .load 2 true (.tmp 9), none, []⟩,
  ⟨some 29, .callv (.tmp 26) [.tmp 27, .tmp 28], none, []⟩,
  ⟨some 10, .mv (.tmp 29), none, []⟩]
def F.slices_CompareFunc_api_Sym_api_Sym_api_Sym_api_Sym.r8 : List DOp := [
  ⟨some 30, .mv (.tmp 10), none, []⟩,
  ⟨some 31, .bin .neq (.tmp 30) (.const (.int .i64 0)), none, []⟩]
def F.slices_CompareFunc_api_Sym_api_Sym_api_Sym_api_Sym.r9 : List DOp := [
  ⟨some 32, .mv (.tmp 10), none, []⟩,
  ⟨some 6, .mv (.tmp 32), none, []⟩]
def F.slices_CompareFunc_api_Sym_api_Sym_api_Sym_api_Sym.r10 : List DOp := [
  ⟨some 33, .bin .add (.tmp 13) (.const (.int .i64 1)), none, []⟩,
  ⟨some 13, .mv (.tmp 33), none, []⟩]
def F.slices_CompareFunc_api_Sym_api_Sym_api_Sym_api_Sym.L0 : ACode := .seq (.region F.slices_CompareFunc_api_Sym_api_Sym_api_Sym_api_Sym.r2) (.seq (.cond (.tmp 14) (.skip) (.exit 0)) (.seq (.block 1 (.seq (.region F.slices_CompareFunc_api_Sym_api_Sym_api_Sym_api_Sym.r3) (.seq (.seq (.region F.slices_CompareFunc_api_Sym_api_Sym_api_Sym_api_Sym.r4) (.cond (.tmp 21) (.seq (.region F.slices_CompareFunc_api_Sym_api_Sym_api_Sym_api_Sym.r5) (.ret)) (.skip))) (.seq (.region F.slices_CompareFunc_api_Sym_api_Sym_api_Sym_api_Sym.r6) (.seq (.region F.slices_CompareFunc_api_Sym_api_Sym_api_Sym_api_Sym.r7) (.seq (.region F.slices_CompareFunc_api_Sym_api_Sym_api_Sym_api_Sym.r8) (.cond (.tmp 31) (.seq (.region F.slices_CompareFunc_api_Sym_api_Sym_api_Sym_api_Sym.r9) (.ret)) (.skip)))))))) (.region F.slices_CompareFunc_api_Sym_api_Sym_api_Sym_api_Sym.r10)))
def F.slices_CompareFunc_api_Sym_api_Sym_api_Sym_api_Sym.r11 : List DOp := [
  ⟨some 34, .mv (.tmp 0), none, []⟩,
  ⟨some 35, .len (.tmp 34), none, []⟩,
  ⟨some 36, .mv (.tmp 1), none, []⟩,
  ⟨some 37, .len (.tmp 36), none, []⟩,
  ⟨some 38, .bin .lss (.tmp 35) (.tmp 37), none, []⟩]
def F.slices_CompareFunc_api_Sym_api_Sym_api_Sym_api_Sym.r12 : List DOp := [
  ⟨some 6, .mv (.const (.int .i64 (-1))), none, []⟩]
def F.slices_CompareFunc_api_Sym_api_Sym_api_Sym_api_Sym.r13 : List DOp := [
  ⟨some 6, .mv (.const (.int .i64 0)), none, []⟩]
def F.slices_CompareFunc_api_Sym_api_Sym_api_Sym_api_Sym.c : ACode := .seq (.region F.slices_CompareFunc_api_Sym_api_Sym_api_Sym_api_Sym.r0) (.seq (.seq (.region F.slices_CompareFunc_api_Sym_api_Sym_api_Sym_api_Sym.r1) (.block 0 (.loop F.slices_CompareFunc_api_Sym_api_Sym_api_Sym_api_Sym.L0))) (.seq (.seq (.region F.slices_CompareFunc_api_Sym_api_Sym_api_Sym_api_Sym.r11) (.cond (.tmp 38) (.seq (.region F.slices_CompareFunc_api_Sym_api_Sym_api_Sym_api_Sym.r12) (.ret)) (.skip))) (.seq (.region F.slices_CompareFunc_api_Sym_api_Sym_api_Sym_api_Sym.r13) (.ret))))
def F.slices_CompareFunc_api_Sym_api_Sym_api_Sym_api_Sym : AFunc := ⟨F.slices_CompareFunc_api_Sym_api_Sym_api_Sym_api_Sym.c, [.tmp 6]⟩
end Go.Proofs.Ythgdobdhdfjhfaa
