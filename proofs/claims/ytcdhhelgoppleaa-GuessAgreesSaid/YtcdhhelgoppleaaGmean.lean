/- The abstract code of package mean, written by wip/tools/gen.py from the translation. -/
import Derived.Test.YtcdhhelgoppleaaI
namespace Go.Proofs.Ytcdhhelgoppleaa
open Go Go.Ab
/-! parlance/mean.Accepts -/
def F.mean_Accepts.r0 : List DOp := [
 Dd 2 (.box (.tmp 0)),
 Dd 4 (.mv (.const (.bool false))),
 Dd 5 (.mv (.const (.int .i64 0)))]
def F.mean_Accepts.r1 : List DOp := [
 Dd 7 (.load 4 true (.tmp 2)),
 Dd 8 (.mv (.tmp 1)),
 Dd 9 (.call I.mean_check [.tmp 7, .tmp 8]),
 Dd 6 (.mv (.tmp 9))]
def F.mean_Accepts.r2 : List DOp := [
 Dd 10 (.mv (.tmp 6)),
 Dd 11 (.bin .neq (.tmp 10) (.const (.int .i64 0)))]
def F.mean_Accepts.r3 : List DOp := [
 Dd 12 (.mv (.tmp 6)),
 Dd 4 (.mv (.const (.bool false))),
 Dd 5 (.mv (.tmp 12))]
def F.mean_Accepts.r4 : List DOp := [
 Dd 13 (.load 4 true (.tmp 2)),
 Dd 14 (.mv (.tmp 1)),
 Dd 15 (.call I.mean_derived [.tmp 13, .tmp 14]),
 Dd 16 (.faddr 2 (.tmp 2)),
 Dd 17 (.load 1 false (.tmp 16)),
 Dd 18 (.build [.bool false, .int .i64 0] [(1, 1, .tmp 17)]),
 Dd 19 (.mv (.tmp 1)),
 Dd 20 (.len (.tmp 19)),
 Dd 21 (.call I.mean_ends_is [.tmp 15, .tmp 18, .const (.int .i64 0), .tmp 20]),
 Dd 4 (.mv (.tmp 21)),
 Dd 5 (.mv (.const (.int .i64 0)))]
def F.mean_Accepts.c : ACode := .seq (.region F.mean_Accepts.r0) (.seq (.seq (.region F.mean_Accepts.r1) (.seq (.region F.mean_Accepts.r2) (.cond (.tmp 11) (.seq (.region F.mean_Accepts.r3) (.ret)) (.skip)))) (.seq (.draw F.mean_Accepts.r4 [(4, 2)]) (.ret)))
def F.mean_Accepts : AFunc := ⟨F.mean_Accepts.c, [.tmp 4, .tmp 5]⟩
/-! parlance/mean.check -/
def F.mean_check.r0 : List DOp := [
 Dd 2 (.box (.tmp 0)),
 Dd 4 (.mv (.const (.int .i64 0)))]
def F.mean_check.r1 : List DOp := [
 Dd 6 (.load 4 true (.tmp 2)),
 Dd 7 (.call I.gram_Check [.tmp 6]),
 Dd 5 (.mv (.tmp 7))]
def F.mean_check.r2 : List DOp := [
 Dd 8 (.mv (.tmp 5)),
 Dd 9 (.bin .neq (.tmp 8) (.const (.int .i64 0)))]
def F.mean_check.r3 : List DOp := [
 Dd 10 (.mv (.tmp 5)),
 Dd 4 (.mv (.tmp 10))]
def F.mean_check.r4 : List DOp := [
 Dd 11 (.load 4 true (.tmp 2)),
 Dd 12 (.mv (.tmp 1)),
 Dd 13 (.call I.gram_Word [.tmp 11, .tmp 12, .const (.int .i64 12)]),
 Dd 4 (.mv (.tmp 13))]
def F.mean_check.c : ACode := .seq (.region F.mean_check.r0) (.seq (.seq (.region F.mean_check.r1) (.seq (.region F.mean_check.r2) (.cond (.tmp 9) (.seq (.region F.mean_check.r3) (.ret)) (.skip)))) (.seq (.region F.mean_check.r4) (.ret)))
def F.mean_check : AFunc := ⟨F.mean_check.c, [.tmp 4]⟩
/-! parlance/mean.derived -/
def F.mean_derived.r0 : List DOp := [
 Dd 2 (.box (.tmp 0)),
 Dd 4 (.mv (.const (.pointer none)))]
def F.mean_derived.r1 : List DOp := [
 Dd 14 (.load 4 true (.tmp 2)),
 Dd 15 (.mv (.tmp 1)),
 Dd 16 (.faddr 1 (.tmp 2)),
 Dd 17 (.load 1 false (.tmp 16)),
 Dd 18 (.mkslice 1 24 [.slice none 0 0] (.tmp 17) (.tmp 17)),
 Dd 19 (.build [.int .i64 0, .int .i64 0, .int .i64 0, .slice none 0 0, .slice none 0 0, .slice none 0 0] [(0, 4, .tmp 14), (4, 1, .tmp 15), (5, 1, .tmp 18)]),
 Dd 20 (.box (.tmp 19)),
 Dd 5 (.mv (.tmp 20))]
def F.mean_derived.r2 : List DOp := [
 Dd 21 (.mv (.tmp 5)),
 Dd 22 (.nilchk (.tmp 21)),
 Dd 23 (.faddr 5 (.tmp 22)),
 Dd 24 (.load 1 false (.tmp 23)),
 Dd 25 (.len (.tmp 24)),
 Dd 26 (.mv (.const (.int .i64 0)))]
def F.mean_derived.r3 : List DOp := [
 Dd 27 (.bin .lss (.tmp 26) (.tmp 25))]
def F.mean_derived.r4 : List DOp := [
 Dd 28 (.mv (.tmp 26)),
 Dd 6 (.mv (.tmp 28))]
def F.mean_derived.r5 : List DOp := [
 Dd 29 (.mv (.tmp 5)),
 Dd 30 (.nilchk (.tmp 29)),
 Dd 31 (.faddr 5 (.tmp 30)),
 Dd 32 (.load 1 false (.tmp 31)),
 Dd 33 (.mv (.tmp 6)),
 Dd 34 (.mv (.tmp 1)),
 Dd 35 (.len (.tmp 34)),
 Dd 36 (.bin .add (.tmp 35) (.const (.int .i64 1))),
 Dd 37 (.mkslice 1 4 [.int .u32 0] (.tmp 36) (.tmp 36)),
 Dd 38 (.idxs 1 (.tmp 32) (.tmp 33)),
 De (.store 1 (.tmp 38) (.tmp 37))]
def F.mean_derived.r6 : List DOp := [
 Dd 39 (.bin .add (.tmp 26) (.const (.int .i64 1))),
 Dd 26 (.mv (.tmp 39))]
def F.mean_derived.L0 : ACode := .seq (.region F.mean_derived.r3) (.seq (.cond (.tmp 27) (.skip) (.exit 0)) (.seq (.block 1 (.seq (.region F.mean_derived.r4) (.draw F.mean_derived.r5 []))) (.region F.mean_derived.r6)))
def F.mean_derived.r7 : List DOp := [
 Dd 7 (.mv (.const (.bool true)))]
def F.mean_derived.r8 : List DOp := [
 Dd 40 (.mv (.tmp 7))]
def F.mean_derived.r9 : List DOp := [
 Dd 7 (.mv (.const (.bool false)))]
def F.mean_derived.r10 : List DOp := [
 Dd 41 (.faddr 3 (.tmp 2)),
 Dd 42 (.load 1 false (.tmp 41)),
 Dd 43 (.len (.tmp 42)),
 Dd 44 (.mv (.const (.int .i64 0)))]
def F.mean_derived.r11 : List DOp := [
 Dd 45 (.bin .lss (.tmp 44) (.tmp 43))]
def F.mean_derived.r12 : List DOp := [
 Dd 46 (.idxs 2 (.tmp 42) (.tmp 44)),
 Dd 47 (.load 2 true (.tmp 46)),
 Dd 9 (.alloc [.int .i64 0, .slice none 0 0]),
 De (.store 2 (.tmp 9) (.tmp 47))]
def F.mean_derived.r13 : List DOp := [
 Dd 48 (.mv (.tmp 5)),
 Dd 49 (.nilchk (.tmp 48)),
 Dd 50 (.faddr 5 (.tmp 49)),
 Dd 51 (.load 1 false (.tmp 50)),
 Dd 52 (.faddr 0 (.tmp 9)),
 Dd 53 (.load 1 false (.tmp 52)),
 Dd 54 (.idxs 1 (.tmp 51) (.tmp 53)),
 Dd 55 (.load 1 false (.tmp 54)),
 Dd 56 (.len (.tmp 55)),
 Dd 57 (.mv (.const (.int .i64 0)))]
def F.mean_derived.r14 : List DOp := [
 Dd 58 (.bin .lss (.tmp 57) (.tmp 56))]
def F.mean_derived.r15 : List DOp := [
 Dd 59 (.mv (.tmp 57)),
 Dd 10 (.mv (.tmp 59))]
def F.mean_derived.r16 : List DOp := [
 Dd 60 (.mv (.tmp 10)),
 Dd 61 (.bin .shl (.const (.int .u32 1)) (.tmp 60)),
 Dd 11 (.mv (.tmp 61))]
def F.mean_derived.r17 : List DOp := [
 Dd 62 (.faddr 1 (.tmp 9)),
 Dd 63 (.load 1 false (.tmp 62)),
 Dd 64 (.len (.tmp 63)),
 Dd 65 (.mv (.const (.int .i64 0)))]
def F.mean_derived.r18 : List DOp := [
 Dd 66 (.bin .lss (.tmp 65) (.tmp 64))]
def F.mean_derived.r19 : List DOp := [
 Dd 67 (.idxs 2 (.tmp 63) (.tmp 65)),
 Dd 68 (.load 2 true (.tmp 67)),
 Dd 13 (.alloc [.bool false, .int .i64 0]),
 De (.store 2 (.tmp 13) (.tmp 68))]
def F.mean_derived.r20 : List DOp := [
 Dd 69 (.mv (.tmp 5)),
 Dd 70 (.load 2 true (.tmp 13)),
 Dd 71 (.mv (.tmp 11)),
 Dd 72 (.call I.mean_ends_after [.tmp 69, .tmp 70, .tmp 71]),
 Dd 11 (.mv (.tmp 72))]
def F.mean_derived.r21 : List DOp := [
 Dd 73 (.bin .add (.tmp 65) (.const (.int .i64 1))),
 Dd 65 (.mv (.tmp 73))]
def F.mean_derived.L4 : ACode := .seq (.region F.mean_derived.r18) (.seq (.cond (.tmp 66) (.skip) (.exit 8)) (.seq (.block 9 (.seq (.region F.mean_derived.r19) (.region F.mean_derived.r20))) (.region F.mean_derived.r21)))
def F.mean_derived.r22 : List DOp := [
 Dd 74 (.mv (.tmp 11)),
 Dd 75 (.mv (.tmp 5)),
 Dd 76 (.nilchk (.tmp 75)),
 Dd 77 (.faddr 5 (.tmp 76)),
 Dd 78 (.load 1 false (.tmp 77)),
 Dd 79 (.faddr 0 (.tmp 9)),
 Dd 80 (.load 1 false (.tmp 79)),
 Dd 81 (.idxs 1 (.tmp 78) (.tmp 80)),
 Dd 82 (.load 1 false (.tmp 81)),
 Dd 83 (.mv (.tmp 10)),
 Dd 84 (.idxs 1 (.tmp 82) (.tmp 83)),
 Dd 85 (.load 1 false (.tmp 84)),
 Dd 86 (.bin .andNot (.tmp 74) (.tmp 85)),
 Dd 87 (.bin .neq (.tmp 86) (.const (.int .u32 0)))]
def F.mean_derived.r23 : List DOp := [
 Dd 88 (.mv (.tmp 5)),
 Dd 89 (.nilchk (.tmp 88)),
 Dd 90 (.faddr 5 (.tmp 89)),
 Dd 91 (.load 1 false (.tmp 90)),
 Dd 92 (.faddr 0 (.tmp 9)),
 Dd 93 (.load 1 false (.tmp 92)),
 Dd 94 (.idxs 1 (.tmp 91) (.tmp 93)),
 Dd 95 (.load 1 false (.tmp 94)),
 Dd 96 (.mv (.tmp 10)),
 Dd 97 (.idxs 1 (.tmp 95) (.tmp 96)),
 Dd 98 (.load 1 false (.tmp 97)),
 Dd 99 (.mv (.tmp 11)),
 Dd 100 (.bin .or (.tmp 98) (.tmp 99)),
 Dd 101 (.idxs 1 (.tmp 95) (.tmp 96)),
 De (.store 1 (.tmp 101) (.tmp 100))]
def F.mean_derived.r24 : List DOp := [
 Dd 7 (.mv (.const (.bool true)))]
def F.mean_derived.r25 : List DOp := [
 Dd 102 (.bin .add (.tmp 57) (.const (.int .i64 1))),
 Dd 57 (.mv (.tmp 102))]
def F.mean_derived.L3 : ACode := .seq (.region F.mean_derived.r14) (.seq (.cond (.tmp 58) (.skip) (.exit 6)) (.seq (.block 7 (.seq (.region F.mean_derived.r15) (.seq (.region F.mean_derived.r16) (.seq (.seq (.region F.mean_derived.r17) (.block 8 (.loop F.mean_derived.L4))) (.seq (.draw F.mean_derived.r22 []) (.cond (.tmp 87) (.seq (.draw F.mean_derived.r23 []) (.region F.mean_derived.r24)) (.skip))))))) (.region F.mean_derived.r25)))
def F.mean_derived.r26 : List DOp := [
 Dd 103 (.bin .add (.tmp 44) (.const (.int .i64 1))),
 Dd 44 (.mv (.tmp 103))]
def F.mean_derived.L2 : ACode := .seq (.region F.mean_derived.r11) (.seq (.cond (.tmp 45) (.skip) (.exit 4)) (.seq (.block 5 (.seq (.region F.mean_derived.r12) (.seq (.draw F.mean_derived.r13 []) (.block 6 (.loop F.mean_derived.L3))))) (.region F.mean_derived.r26)))
def F.mean_derived.L1 : ACode := .seq (.seq (.region F.mean_derived.r8) (.cond (.tmp 40) (.skip) (.exit 2))) (.block 3 (.seq (.region F.mean_derived.r9) (.seq (.region F.mean_derived.r10) (.block 4 (.loop F.mean_derived.L2)))))
def F.mean_derived.r27 : List DOp := [
 Dd 104 (.mv (.tmp 5)),
 Dd 4 (.mv (.tmp 104))]
def F.mean_derived.c : ACode := .seq (.region F.mean_derived.r0) (.seq (.draw F.mean_derived.r1 []) (.seq (.seq (.region F.mean_derived.r2) (.block 0 (.loop F.mean_derived.L0))) (.seq (.seq (.region F.mean_derived.r7) (.block 2 (.loop F.mean_derived.L1))) (.seq (.region F.mean_derived.r27) (.ret)))))
def F.mean_derived : AFunc := ⟨F.mean_derived.c, [.tmp 4]⟩
/-! (*parlance/mean.ends).is -/
def F.mean_ends_is.r0 : List DOp := [
 Dd 5 (.box (.tmp 1)),
 Dd 8 (.mv (.const (.bool false)))]
def F.mean_ends_is.r1 : List DOp := [
 Dd 9 (.mv (.tmp 0)),
 Dd 10 (.load 2 true (.tmp 5)),
 Dd 11 (.mv (.tmp 2)),
 Dd 12 (.bin .shl (.const (.int .u32 1)) (.tmp 11)),
 Dd 13 (.call I.mean_ends_after [.tmp 9, .tmp 10, .tmp 12]),
 Dd 14 (.mv (.tmp 3)),
 Dd 15 (.bin .shr (.tmp 13) (.tmp 14)),
 Dd 16 (.bin .and (.tmp 15) (.const (.int .u32 1))),
 Dd 17 (.bin .eql (.tmp 16) (.const (.int .u32 1))),
 Dd 8 (.mv (.tmp 17))]
def F.mean_ends_is.c : ACode := .seq (.region F.mean_ends_is.r0) (.seq (.draw F.mean_ends_is.r1 []) (.ret))
def F.mean_ends_is : AFunc := ⟨F.mean_ends_is.c, [.tmp 8]⟩
/-! (*parlance/mean.ends).after -/
def F.mean_ends_after.r0 : List DOp := [
 Dd 4 (.box (.tmp 1)),
 Dd 6 (.mv (.const (.int .u32 0)))]
def F.mean_ends_after.r1 : List DOp := [
 Dd 7 (.mv (.const (.int .u32 0)))]
def F.mean_ends_after.r2 : List DOp := [
 Dd 8 (.mv (.const (.int .i64 0)))]
def F.mean_ends_after.r3 : List DOp := [
 Dd 9 (.mv (.tmp 8)),
 Dd 10 (.mv (.tmp 0)),
 Dd 11 (.nilchk (.tmp 10)),
 Dd 12 (.faddr 4 (.tmp 11)),
 Dd 13 (.load 1 false (.tmp 12)),
 Dd 14 (.len (.tmp 13)),
 Dd 15 (.bin .leq (.tmp 9) (.tmp 14))]
def F.mean_ends_after.r5 : List DOp := [
 Dd 18 (.mv (.tmp 2)),
 Dd 19 (.mv (.tmp 8)),
 Dd 20 (.bin .shr (.tmp 18) (.tmp 19)),
 Dd 21 (.bin .and (.tmp 20) (.const (.int .u32 1))),
 Dd 22 (.bin .eql (.tmp 21) (.const (.int .u32 0)))]
def F.mean_ends_after.r6 : List DOp := [
 Dd 24 (.faddr 0 (.tmp 4)),
 Dd 25 (.load 1 false (.tmp 24)),
 Dd 26 (.un .not (.tmp 25)),
 Dd 23 (.mv (.tmp 26))]
def F.mean_ends_after.r7 : List DOp := [
 Dd 27 (.mv (.tmp 7)),
 Dd 28 (.mv (.tmp 0)),
 Dd 29 (.nilchk (.tmp 28)),
 Dd 30 (.faddr 5 (.tmp 29)),
 Dd 31 (.load 1 false (.tmp 30)),
 Dd 32 (.faddr 1 (.tmp 4)),
 Dd 33 (.load 1 false (.tmp 32)),
 Dd 34 (.idxs 1 (.tmp 31) (.tmp 33)),
 Dd 35 (.load 1 false (.tmp 34)),
 Dd 36 (.mv (.tmp 8)),
 Dd 37 (.idxs 1 (.tmp 35) (.tmp 36)),
 Dd 38 (.load 1 false (.tmp 37)),
 Dd 39 (.bin .or (.tmp 27) (.tmp 38)),
 Dd 7 (.mv (.tmp 39))]
def F.mean_ends_after.r8 : List DOp := [
 Dd 41 (.mv (.tmp 8)),
 Dd 42 (.mv (.tmp 0)),
 Dd 43 (.nilchk (.tmp 42)),
 Dd 44 (.faddr 4 (.tmp 43)),
 Dd 45 (.load 1 false (.tmp 44)),
 Dd 46 (.len (.tmp 45)),
 Dd 47 (.bin .lss (.tmp 41) (.tmp 46)),
 Dd 48 (.mv (.tmp 47)),
 ⟨some 49, .mv (.tmp 0), (some (48, true)), []⟩,
 ⟨some 50, .nilchk (.tmp 49), (some (48, true)), []⟩,
 ⟨some 51, .faddr 4 (.tmp 50), (some (48, true)), []⟩,
 ⟨some 52, .load 1 false (.tmp 51), (some (48, true)), []⟩,
 ⟨some 53, .mv (.tmp 8), (some (48, true)), []⟩,
 ⟨some 54, .idxs 1 (.tmp 52) (.tmp 53), (some (48, true)), []⟩,
 ⟨some 55, .load 1 false (.tmp 54), (some (48, true)), []⟩,
 ⟨some 56, .faddr 1 (.tmp 4), (some (48, true)), []⟩,
 ⟨some 57, .load 1 false (.tmp 56), (some (48, true)), []⟩,
 ⟨some 58, .bin .eql (.tmp 55) (.tmp 57), (some (48, true)), []⟩,
 Dd 59 (.pick (.tmp 48) (.tmp 58) (.const (.bool false))),
 Dd 40 (.mv (.tmp 59))]
def F.mean_ends_after.r9 : List DOp := [
 Dd 60 (.mv (.tmp 7)),
 Dd 61 (.mv (.tmp 8)),
 Dd 62 (.bin .add (.tmp 61) (.const (.int .i64 1))),
 Dd 63 (.bin .shl (.const (.int .u32 1)) (.tmp 62)),
 Dd 64 (.bin .or (.tmp 60) (.tmp 63)),
 Dd 7 (.mv (.tmp 64))]
def F.mean_ends_after.r4 : List DOp := [
 Dd 16 (.mv (.tmp 8)),
 Dd 17 (.bin .add (.tmp 16) (.const (.int .i64 1))),
 Dd 8 (.mv (.tmp 17))]
def F.mean_ends_after.L0 : ACode := .seq (.seq (.region F.mean_ends_after.r3) (.cond (.tmp 15) (.skip) (.exit 0))) (.seq (.block 1 (.seq (.seq (.region F.mean_ends_after.r5) (.cond (.tmp 22) (.exit 1) (.skip))) (.block 2 (.seq (.region F.mean_ends_after.r6) (.cond (.tmp 23) (.draw F.mean_ends_after.r7 []) (.seq (.draw F.mean_ends_after.r8 []) (.cond (.tmp 40) (.region F.mean_ends_after.r9) (.skip)))))))) (.region F.mean_ends_after.r4))
def F.mean_ends_after.r10 : List DOp := [
 Dd 65 (.mv (.tmp 7)),
 Dd 6 (.mv (.tmp 65))]
def F.mean_ends_after.c : ACode := .seq (.region F.mean_ends_after.r0) (.seq (.region F.mean_ends_after.r1) (.seq (.seq (.region F.mean_ends_after.r2) (.block 0 (.loop F.mean_ends_after.L0))) (.seq (.region F.mean_ends_after.r10) (.ret))))
def F.mean_ends_after : AFunc := ⟨F.mean_ends_after.c, [.tmp 6]⟩
end Go.Proofs.Ytcdhhelgoppleaa
