/- The abstract code of package mathbits, written by wip/tools/gen.py from the translation. -/
import Derived.Test.YtbehlbabgomhfaaI
namespace Go.Proofs.Ytbehlbabgomhfaa
open Go Go.Ab
/-! math/bits.Len -/
def F.math_bits_Len.r0 : List DOp := [
 Dd 2 (.mv (.const (.int .i64 0)))]
def F.math_bits_Len.r1 : List DOp := [
 Dd 3 (.mv (.tmp 0)),
 Dd 4 (.conv .u32 (.tmp 3)),
 Dd 5 (.call I.math_bits_Len32 [.tmp 4]),
 Dd 2 (.mv (.tmp 5))]
def F.math_bits_Len.r2 : List DOp := [
 Dd 6 (.mv (.tmp 0)),
 Dd 7 (.call I.math_bits_Len64 [.tmp 6]),
 Dd 2 (.mv (.tmp 7))]
def F.math_bits_Len.c : ACode := .seq (.region F.math_bits_Len.r0) (.seq (.cond (.const (.bool false)) (.seq (.region F.math_bits_Len.r1) (.ret)) (.skip)) (.seq (.region F.math_bits_Len.r2) (.ret)))
def F.math_bits_Len : AFunc := ⟨F.math_bits_Len.c, [.tmp 2]⟩
/-! math/bits.Len32 -/
def F.math_bits_Len32.r0 : List DOp := [
 Dd 2 (.mv (.const (.int .i64 0)))]
def F.math_bits_Len32.r1 : List DOp := [
 Dd 3 (.mv (.tmp 0)),
 Dd 4 (.bin .geq (.tmp 3) (.const (.int .u32 65536)))]
def F.math_bits_Len32.r2 : List DOp := [
 Dd 5 (.mv (.tmp 0)),
 Dd 6 (.bin .shr (.tmp 5) (.const (.int .u64 16))),
 Dd 0 (.mv (.tmp 6))]
def F.math_bits_Len32.r3 : List DOp := [
 Dd 2 (.mv (.const (.int .i64 16)))]
def F.math_bits_Len32.r4 : List DOp := [
 Dd 7 (.mv (.tmp 0)),
 Dd 8 (.bin .geq (.tmp 7) (.const (.int .u32 256)))]
def F.math_bits_Len32.r5 : List DOp := [
 Dd 9 (.mv (.tmp 0)),
 Dd 10 (.bin .shr (.tmp 9) (.const (.int .u64 8))),
 Dd 0 (.mv (.tmp 10))]
def F.math_bits_Len32.r6 : List DOp := [
 Dd 11 (.mv (.tmp 2)),
 Dd 12 (.bin .add (.tmp 11) (.const (.int .i64 8))),
 Dd 2 (.mv (.tmp 12))]
def F.math_bits_Len32.r7 : List DOp := [
 Dd 13 (.mv (.tmp 2)),
 Dd 14 (.mv (.tmp 0)),
 Dd 15 (.conv .u8 (.tmp 14)),
 Dd 16 (.idxstr (.const (.string ⟨#[0, 1, 2, 2, 3, 3, 3, 3, 4, 4, 4, 4, 4, 4, 4, 4, 5, 5, 5, 5, 5, 5, 5, 5, 5, 5, 5, 5, 5, 5, 5, 5, 6, 6, 6, 6, 6, 6, 6, 6, 6, 6, 6, 6, 6, 6, 6, 6, 6, 6, 6, 6, 6, 6, 6, 6, 6, 6, 6, 6, 6, 6, 6, 6, 7, 7, 7, 7, 7, 7, 7, 7, 7, 7, 7, 7, 7, 7, 7, 7, 7, 7, 7, 7, 7, 7, 7, 7, 7, 7, 7, 7, 7, 7, 7, 7, 7, 7, 7, 7, 7, 7, 7, 7, 7, 7, 7, 7, 7, 7, 7, 7, 7, 7, 7, 7, 7, 7, 7, 7, 7, 7, 7, 7, 7, 7, 7, 7, 8, 8, 8, 8, 8, 8, 8, 8, 8, 8, 8, 8, 8, 8, 8, 8, 8, 8, 8, 8, 8, 8, 8, 8, 8, 8, 8, 8, 8, 8, 8, 8, 8, 8, 8, 8, 8, 8, 8, 8, 8, 8, 8, 8, 8, 8, 8, 8, 8, 8, 8, 8, 8, 8, 8, 8, 8, 8, 8, 8, 8, 8, 8, 8, 8, 8, 8, 8, 8, 8, 8, 8, 8, 8, 8, 8, 8, 8, 8, 8, 8, 8, 8, 8, 8, 8, 8, 8, 8, 8, 8, 8, 8, 8, 8, 8, 8, 8, 8, 8, 8, 8, 8, 8, 8, 8, 8, 8, 8, 8, 8, 8, 8, 8, 8, 8, 8, 8, 8, 8, 8, 8, 8, 8, 8, 8, 8, 8]⟩)) (.tmp 15)),
 Dd 17 (.conv .i64 (.tmp 16)),
 Dd 18 (.bin .add (.tmp 13) (.tmp 17)),
 Dd 2 (.mv (.tmp 18))]
def F.math_bits_Len32.c : ACode := .seq (.region F.math_bits_Len32.r0) (.seq (.seq (.region F.math_bits_Len32.r1) (.cond (.tmp 4) (.seq (.region F.math_bits_Len32.r2) (.region F.math_bits_Len32.r3)) (.skip))) (.seq (.seq (.region F.math_bits_Len32.r4) (.cond (.tmp 8) (.seq (.region F.math_bits_Len32.r5) (.region F.math_bits_Len32.r6)) (.skip))) (.seq (.region F.math_bits_Len32.r7) (.ret))))
def F.math_bits_Len32 : AFunc := ⟨F.math_bits_Len32.c, [.tmp 2]⟩
/-! math/bits.Len64 -/
def F.math_bits_Len64.r0 : List DOp := [
 Dd 2 (.mv (.const (.int .i64 0)))]
def F.math_bits_Len64.r1 : List DOp := [
 Dd 3 (.mv (.tmp 0)),
 Dd 4 (.bin .geq (.tmp 3) (.const (.int .u64 4294967296)))]
def F.math_bits_Len64.r2 : List DOp := [
 Dd 5 (.mv (.tmp 0)),
 Dd 6 (.bin .shr (.tmp 5) (.const (.int .u64 32))),
 Dd 0 (.mv (.tmp 6))]
def F.math_bits_Len64.r3 : List DOp := [
 Dd 2 (.mv (.const (.int .i64 32)))]
def F.math_bits_Len64.r4 : List DOp := [
 Dd 7 (.mv (.tmp 0)),
 Dd 8 (.bin .geq (.tmp 7) (.const (.int .u64 65536)))]
def F.math_bits_Len64.r5 : List DOp := [
 Dd 9 (.mv (.tmp 0)),
 Dd 10 (.bin .shr (.tmp 9) (.const (.int .u64 16))),
 Dd 0 (.mv (.tmp 10))]
def F.math_bits_Len64.r6 : List DOp := [
 Dd 11 (.mv (.tmp 2)),
 Dd 12 (.bin .add (.tmp 11) (.const (.int .i64 16))),
 Dd 2 (.mv (.tmp 12))]
def F.math_bits_Len64.r7 : List DOp := [
 Dd 13 (.mv (.tmp 0)),
 Dd 14 (.bin .geq (.tmp 13) (.const (.int .u64 256)))]
def F.math_bits_Len64.r8 : List DOp := [
 Dd 15 (.mv (.tmp 0)),
 Dd 16 (.bin .shr (.tmp 15) (.const (.int .u64 8))),
 Dd 0 (.mv (.tmp 16))]
def F.math_bits_Len64.r9 : List DOp := [
 Dd 17 (.mv (.tmp 2)),
 Dd 18 (.bin .add (.tmp 17) (.const (.int .i64 8))),
 Dd 2 (.mv (.tmp 18))]
def F.math_bits_Len64.r10 : List DOp := [
 Dd 19 (.mv (.tmp 2)),
 Dd 20 (.mv (.tmp 0)),
 Dd 21 (.conv .u8 (.tmp 20)),
 Dd 22 (.idxstr (.const (.string ⟨#[0, 1, 2, 2, 3, 3, 3, 3, 4, 4, 4, 4, 4, 4, 4, 4, 5, 5, 5, 5, 5, 5, 5, 5, 5, 5, 5, 5, 5, 5, 5, 5, 6, 6, 6, 6, 6, 6, 6, 6, 6, 6, 6, 6, 6, 6, 6, 6, 6, 6, 6, 6, 6, 6, 6, 6, 6, 6, 6, 6, 6, 6, 6, 6, 7, 7, 7, 7, 7, 7, 7, 7, 7, 7, 7, 7, 7, 7, 7, 7, 7, 7, 7, 7, 7, 7, 7, 7, 7, 7, 7, 7, 7, 7, 7, 7, 7, 7, 7, 7, 7, 7, 7, 7, 7, 7, 7, 7, 7, 7, 7, 7, 7, 7, 7, 7, 7, 7, 7, 7, 7, 7, 7, 7, 7, 7, 7, 7, 8, 8, 8, 8, 8, 8, 8, 8, 8, 8, 8, 8, 8, 8, 8, 8, 8, 8, 8, 8, 8, 8, 8, 8, 8, 8, 8, 8, 8, 8, 8, 8, 8, 8, 8, 8, 8, 8, 8, 8, 8, 8, 8, 8, 8, 8, 8, 8, 8, 8, 8, 8, 8, 8, 8, 8, 8, 8, 8, 8, 8, 8, 8, 8, 8, 8, 8, 8, 8, 8, 8, 8, 8, 8, 8, 8, 8, 8, 8, 8, 8, 8, 8, 8, 8, 8, 8, 8, 8, 8, 8, 8, 8, 8, 8, 8, 8, 8, 8, 8, 8, 8, 8, 8, 8, 8, 8, 8, 8, 8, 8, 8, 8, 8, 8, 8, 8, 8, 8, 8, 8, 8, 8, 8, 8, 8, 8, 8]⟩)) (.tmp 21)),
 Dd 23 (.conv .i64 (.tmp 22)),
 Dd 24 (.bin .add (.tmp 19) (.tmp 23)),
 Dd 2 (.mv (.tmp 24))]
def F.math_bits_Len64.c : ACode := .seq (.region F.math_bits_Len64.r0) (.seq (.seq (.region F.math_bits_Len64.r1) (.cond (.tmp 4) (.seq (.region F.math_bits_Len64.r2) (.region F.math_bits_Len64.r3)) (.skip))) (.seq (.seq (.region F.math_bits_Len64.r4) (.cond (.tmp 8) (.seq (.region F.math_bits_Len64.r5) (.region F.math_bits_Len64.r6)) (.skip))) (.seq (.seq (.region F.math_bits_Len64.r7) (.cond (.tmp 14) (.seq (.region F.math_bits_Len64.r8) (.region F.math_bits_Len64.r9)) (.skip))) (.seq (.region F.math_bits_Len64.r10) (.ret)))))
def F.math_bits_Len64 : AFunc := ⟨F.math_bits_Len64.c, [.tmp 2]⟩
end Go.Proofs.Ytbehlbabgomhfaa
