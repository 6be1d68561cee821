/- The abstract code of package mathbits, written by wip/tools/gen.py from the translation. -/
import Derived.Test.YtmlnknngpdnepaaI
namespace Go.Proofs.Ytmlnknngpdnepaa
open Go Go.Ab
/-! math/bits.Mul -/
def F.math_bits_Mul.r0 : List DOp := [
 Dd 4 (.mv (.const (.int .u64 0))),
 Dd 5 (.mv (.const (.int .u64 0)))]
def F.math_bits_Mul.r1 : List DOp := [
 Dd 11 (.mv (.tmp 0)),
 Dd 12 (.conv .u32 (.tmp 11)),
 Dd 13 (.mv (.tmp 1)),
 Dd 14 (.conv .u32 (.tmp 13)),
 Dd 15 (.call I.math_bits_Mul32 [.tmp 12, .tmp 14]),
 Dd 10 (.mv (.tmp 15)),
 Dd 16 (.extract (.tmp 10) 0),
 Dd 17 (.extract (.tmp 10) 1),
 Dd 6 (.mv (.tmp 16)),
 Dd 7 (.mv (.tmp 17))]
def F.math_bits_Mul.r2 : List DOp := [
 Dd 18 (.mv (.tmp 6)),
 Dd 19 (.conv .u64 (.tmp 18)),
 Dd 20 (.mv (.tmp 7)),
 Dd 21 (.conv .u64 (.tmp 20)),
 Dd 4 (.mv (.tmp 19)),
 Dd 5 (.mv (.tmp 21))]
def F.math_bits_Mul.r3 : List DOp := [
 Dd 23 (.mv (.tmp 0)),
 Dd 24 (.mv (.tmp 1)),
 Dd 25 (.call I.math_bits_Mul64 [.tmp 23, .tmp 24]),
 Dd 22 (.mv (.tmp 25)),
 Dd 26 (.extract (.tmp 22) 0),
 Dd 27 (.extract (.tmp 22) 1),
 Dd 8 (.mv (.tmp 26)),
 Dd 9 (.mv (.tmp 27))]
def F.math_bits_Mul.r4 : List DOp := [
 Dd 28 (.mv (.tmp 8)),
 Dd 29 (.mv (.tmp 9)),
 Dd 4 (.mv (.tmp 28)),
 Dd 5 (.mv (.tmp 29))]
def F.math_bits_Mul.c : ACode := .seq (.region F.math_bits_Mul.r0) (.seq (.cond (.const (.bool false)) (.seq (.region F.math_bits_Mul.r1) (.seq (.region F.math_bits_Mul.r2) (.ret))) (.skip)) (.seq (.region F.math_bits_Mul.r3) (.seq (.region F.math_bits_Mul.r4) (.ret))))
def F.math_bits_Mul : AFunc := ⟨F.math_bits_Mul.c, [.tmp 4, .tmp 5]⟩
/-! math/bits.Mul32 -/
def F.math_bits_Mul32.r0 : List DOp := [
 Dd 4 (.mv (.const (.int .u32 0))),
 Dd 5 (.mv (.const (.int .u32 0)))]
def F.math_bits_Mul32.r1 : List DOp := [
 Dd 7 (.mv (.tmp 0)),
 Dd 8 (.conv .u64 (.tmp 7)),
 Dd 9 (.mv (.tmp 1)),
 Dd 10 (.conv .u64 (.tmp 9)),
 Dd 11 (.bin .mul (.tmp 8) (.tmp 10)),
 Dd 6 (.mv (.tmp 11))]
def F.math_bits_Mul32.r2 : List DOp := [
 Dd 12 (.mv (.tmp 6)),
 Dd 13 (.bin .shr (.tmp 12) (.const (.int .u64 32))),
 Dd 14 (.conv .u32 (.tmp 13)),
 Dd 15 (.mv (.tmp 6)),
 Dd 16 (.conv .u32 (.tmp 15)),
 Dd 4 (.mv (.tmp 14)),
 Dd 5 (.mv (.tmp 16))]
def F.math_bits_Mul32.c : ACode := .seq (.region F.math_bits_Mul32.r0) (.seq (.region F.math_bits_Mul32.r1) (.seq (.region F.math_bits_Mul32.r2) (.ret)))
def F.math_bits_Mul32 : AFunc := ⟨F.math_bits_Mul32.c, [.tmp 4, .tmp 5]⟩
/-! math/bits.Mul64 -/
def F.math_bits_Mul64.r0 : List DOp := [
 Dd 4 (.mv (.const (.int .u64 0))),
 Dd 5 (.mv (.const (.int .u64 0)))]
def F.math_bits_Mul64.r1 : List DOp := [
 Dd 14 (.mv (.tmp 0)),
 Dd 15 (.bin .and (.tmp 14) (.const (.int .u64 4294967295))),
 Dd 6 (.mv (.tmp 15))]
def F.math_bits_Mul64.r2 : List DOp := [
 Dd 16 (.mv (.tmp 0)),
 Dd 17 (.bin .shr (.tmp 16) (.const (.int .u64 32))),
 Dd 7 (.mv (.tmp 17))]
def F.math_bits_Mul64.r3 : List DOp := [
 Dd 18 (.mv (.tmp 1)),
 Dd 19 (.bin .and (.tmp 18) (.const (.int .u64 4294967295))),
 Dd 8 (.mv (.tmp 19))]
def F.math_bits_Mul64.r4 : List DOp := [
 Dd 20 (.mv (.tmp 1)),
 Dd 21 (.bin .shr (.tmp 20) (.const (.int .u64 32))),
 Dd 9 (.mv (.tmp 21))]
def F.math_bits_Mul64.r5 : List DOp := [
 Dd 22 (.mv (.tmp 6)),
 Dd 23 (.mv (.tmp 8)),
 Dd 24 (.bin .mul (.tmp 22) (.tmp 23)),
 Dd 10 (.mv (.tmp 24))]
def F.math_bits_Mul64.r6 : List DOp := [
 Dd 25 (.mv (.tmp 7)),
 Dd 26 (.mv (.tmp 8)),
 Dd 27 (.bin .mul (.tmp 25) (.tmp 26)),
 Dd 28 (.mv (.tmp 10)),
 Dd 29 (.bin .shr (.tmp 28) (.const (.int .u64 32))),
 Dd 30 (.bin .add (.tmp 27) (.tmp 29)),
 Dd 11 (.mv (.tmp 30))]
def F.math_bits_Mul64.r7 : List DOp := [
 Dd 31 (.mv (.tmp 11)),
 Dd 32 (.bin .and (.tmp 31) (.const (.int .u64 4294967295))),
 Dd 12 (.mv (.tmp 32))]
def F.math_bits_Mul64.r8 : List DOp := [
 Dd 33 (.mv (.tmp 11)),
 Dd 34 (.bin .shr (.tmp 33) (.const (.int .u64 32))),
 Dd 13 (.mv (.tmp 34))]
def F.math_bits_Mul64.r9 : List DOp := [
 Dd 35 (.mv (.tmp 12)),
 Dd 36 (.mv (.tmp 6)),
 Dd 37 (.mv (.tmp 9)),
 Dd 38 (.bin .mul (.tmp 36) (.tmp 37)),
 Dd 39 (.bin .add (.tmp 35) (.tmp 38)),
 Dd 12 (.mv (.tmp 39))]
def F.math_bits_Mul64.r10 : List DOp := [
 Dd 40 (.mv (.tmp 7)),
 Dd 41 (.mv (.tmp 9)),
 Dd 42 (.bin .mul (.tmp 40) (.tmp 41)),
 Dd 43 (.mv (.tmp 13)),
 Dd 44 (.bin .add (.tmp 42) (.tmp 43)),
 Dd 45 (.mv (.tmp 12)),
 Dd 46 (.bin .shr (.tmp 45) (.const (.int .u64 32))),
 Dd 47 (.bin .add (.tmp 44) (.tmp 46)),
 Dd 4 (.mv (.tmp 47))]
def F.math_bits_Mul64.r11 : List DOp := [
 Dd 48 (.mv (.tmp 0)),
 Dd 49 (.mv (.tmp 1)),
 Dd 50 (.bin .mul (.tmp 48) (.tmp 49)),
 Dd 5 (.mv (.tmp 50))]
def F.math_bits_Mul64.c : ACode := .seq (.region F.math_bits_Mul64.r0) (.seq (.region F.math_bits_Mul64.r1) (.seq (.region F.math_bits_Mul64.r2) (.seq (.region F.math_bits_Mul64.r3) (.seq (.region F.math_bits_Mul64.r4) (.seq (.region F.math_bits_Mul64.r5) (.seq (.region F.math_bits_Mul64.r6) (.seq (.region F.math_bits_Mul64.r7) (.seq (.region F.math_bits_Mul64.r8) (.seq (.region F.math_bits_Mul64.r9) (.seq (.region F.math_bits_Mul64.r10) (.seq (.region F.math_bits_Mul64.r11) (.ret))))))))))))
def F.math_bits_Mul64 : AFunc := ⟨F.math_bits_Mul64.c, [.tmp 4, .tmp 5]⟩
end Go.Proofs.Ytmlnknngpdnepaa
