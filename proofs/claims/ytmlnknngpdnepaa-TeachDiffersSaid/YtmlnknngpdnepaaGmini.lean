/- The abstract code of package mini, written by wip/tools/gen.py from the translation. -/
import Derived.Test.YtmlnknngpdnepaaI
namespace Go.Proofs.Ytmlnknngpdnepaa
open Go Go.Ab
/-! parlance/mini.Min -/
def F.mini_Min.r0 : List DOp := [
 Dd 1 (.box (.tmp 0)),
 Dd 2 (.alloc [.int .i64 0, .slice none 0 0, .slice none 0 0]),
 Dd 3 (.mv (.const (.int .i64 0)))]
def F.mini_Min.r1 : List DOp := [
 Dd 17 (.load 3 true (.tmp 1)),
 Dd 18 (.call I.dfa_Check [.tmp 17]),
 Dd 4 (.mv (.tmp 18))]
def F.mini_Min.r2 : List DOp := [
 Dd 19 (.mv (.tmp 4)),
 Dd 20 (.bin .neq (.tmp 19) (.const (.int .i64 0)))]
def F.mini_Min.r3 : List DOp := [
 Dd 21 (.build [.int .i64 0, .slice none 0 0, .slice none 0 0] []),
 Dd 22 (.mv (.tmp 4)),
 De (.store 3 (.tmp 2) (.tmp 21)),
 Dd 3 (.mv (.tmp 22))]
def F.mini_Min.r4 : List DOp := [
 Dd 23 (.load 3 true (.tmp 1)),
 Dd 24 (.call I.mini_complete [.tmp 23]),
 Dd 5 (.alloc [.slice none 0 0, .slice none 0 0, .slice none 0 0]),
 De (.store 3 (.tmp 5) (.tmp 24))]
def F.mini_Min.r5 : List DOp := [
 Dd 25 (.load 3 true (.tmp 5)),
 Dd 26 (.call I.mini_hopcroft [.tmp 25]),
 Dd 6 (.mv (.tmp 26))]
def F.mini_Min.r6 : List DOp := [
 Dd 27 (.mv (.tmp 6)),
 Dd 28 (.faddr 2 (.tmp 1)),
 Dd 29 (.load 1 false (.tmp 28)),
 Dd 30 (.len (.tmp 29)),
 Dd 31 (.idxs 1 (.tmp 27) (.tmp 30)),
 Dd 32 (.load 1 false (.tmp 31)),
 Dd 7 (.mv (.tmp 32))]
def F.mini_Min.r7 : List DOp := [
 Dd 33 (.mkmap),
 Dd 34 (.mv (.tmp 6)),
 Dd 35 (.faddr 0 (.tmp 1)),
 Dd 36 (.load 1 false (.tmp 35)),
 Dd 37 (.idxs 1 (.tmp 34) (.tmp 36)),
 Dd 38 (.load 1 false (.tmp 37)),
 De (.mset .int (.tmp 33) (.tmp 38) (.const (.int .i64 0))),
 Dd 39 (.mv (.tmp 33)),
 Dd 8 (.mv (.tmp 39))]
def F.mini_Min.r8 : List DOp := [
 Dd 40 (.build [.int .i64 0, .slice none 0 0, .slice none 0 0] []),
 Dd 9 (.alloc [.int .i64 0, .slice none 0 0, .slice none 0 0]),
 De (.store 3 (.tmp 9) (.tmp 40))]
def F.mini_Min.r9 : List DOp := [
 Dd 41 (.faddr 0 (.tmp 1)),
 Dd 42 (.load 1 false (.tmp 41)),
 Dd 43 (.bslice 1 1 [.int .i64 0] [(0, 1, .tmp 42)]),
 Dd 10 (.mv (.tmp 43))]
def F.mini_Min.r10 : List DOp := [
 Dd 44 (.mv (.tmp 10)),
 Dd 45 (.len (.tmp 44)),
 Dd 46 (.bin .gtr (.tmp 45) (.const (.int .i64 0)))]
def F.mini_Min.r12 : List DOp := [
 Dd 49 (.bslice 1 1 [.int .i64 0] [(0, 1, .const (.int .i64 (-1)))]),
 Dd 50 (.faddr 2 (.tmp 1)),
 Dd 51 (.load 1 false (.tmp 50)),
 Dd 52 (.idxs 1 (.tmp 51) (.const (.int .i64 0))),
 Dd 53 (.load 1 false (.tmp 52)),
 Dd 54 (.len (.tmp 53)),
 Dd 55 (.call I.slices_Repeat_int_int [.tmp 49, .tmp 54]),
 Dd 11 (.mv (.tmp 55))]
def F.mini_Min.r13 : List DOp := [
 Dd 56 (.faddr 1 (.tmp 5)),
 Dd 57 (.load 1 false (.tmp 56)),
 Dd 58 (.mv (.tmp 10)),
 Dd 59 (.idxs 1 (.tmp 58) (.const (.int .i64 0))),
 Dd 60 (.load 1 false (.tmp 59)),
 Dd 61 (.idxs 1 (.tmp 57) (.tmp 60)),
 Dd 62 (.load 1 false (.tmp 61)),
 Dd 63 (.len (.tmp 62)),
 Dd 64 (.mv (.const (.int .i64 0)))]
def F.mini_Min.r14 : List DOp := [
 Dd 65 (.bin .lss (.tmp 64) (.tmp 63))]
def F.mini_Min.r15 : List DOp := [
 Dd 66 (.mv (.tmp 64)),
 Dd 67 (.idxs 1 (.tmp 62) (.tmp 64)),
 Dd 68 (.load 1 false (.tmp 67)),
 Dd 12 (.mv (.tmp 66)),
 Dd 13 (.mv (.tmp 68))]
def F.mini_Min.r16 : List DOp := [
 Dd 69 (.mv (.tmp 6)),
 Dd 70 (.mv (.tmp 13)),
 Dd 71 (.idxs 1 (.tmp 69) (.tmp 70)),
 Dd 72 (.load 1 false (.tmp 71)),
 Dd 14 (.mv (.tmp 72))]
def F.mini_Min.r17 : List DOp := [
 Dd 73 (.mv (.tmp 14)),
 Dd 74 (.mv (.tmp 7)),
 Dd 75 (.bin .eql (.tmp 73) (.tmp 74))]
def F.mini_Min.r18 : List DOp := [
 Dd 77 (.mv (.tmp 8)),
 Dd 78 (.mv (.tmp 14)),
 Dd 79 (.mlook .int (.int .i64 0) true (.tmp 77) (.tmp 78)),
 Dd 76 (.mv (.tmp 79)),
 Dd 80 (.extract (.tmp 76) 0),
 Dd 81 (.extract (.tmp 76) 1),
 Dd 15 (.mv (.tmp 80)),
 Dd 16 (.mv (.tmp 81))]
def F.mini_Min.r19 : List DOp := [
 Dd 82 (.mv (.tmp 16)),
 Dd 83 (.un .not (.tmp 82))]
def F.mini_Min.r20 : List DOp := [
 Dd 84 (.mv (.tmp 8)),
 Dd 85 (.mv (.tmp 14)),
 Dd 86 (.mv (.tmp 8)),
 Dd 87 (.lenm (.tmp 86)),
 De (.mset .int (.tmp 84) (.tmp 85) (.tmp 87))]
def F.mini_Min.r21 : List DOp := [
 Dd 88 (.mv (.tmp 10)),
 Dd 89 (.mv (.tmp 13)),
 Dd 90 (.bslice 1 1 [.int .i64 0] [(0, 1, .tmp 89)]),
 Dd 91 (.append 1 8 (.tmp 88) (.tmp 90)),
 Dd 10 (.mv (.tmp 91))]
def F.mini_Min.r22 : List DOp := [
 Dd 92 (.mv (.tmp 11)),
 Dd 93 (.mv (.tmp 12)),
 Dd 94 (.mv (.tmp 8)),
 Dd 95 (.mv (.tmp 14)),
 Dd 96 (.mlook .int (.int .i64 0) false (.tmp 94) (.tmp 95)),
 Dd 97 (.idxs 1 (.tmp 92) (.tmp 93)),
 De (.store 1 (.tmp 97) (.tmp 96))]
def F.mini_Min.r23 : List DOp := [
 Dd 98 (.bin .add (.tmp 64) (.const (.int .i64 1))),
 Dd 64 (.mv (.tmp 98))]
def F.mini_Min.L1 : ACode := .seq (.region F.mini_Min.r14) (.seq (.cond (.tmp 65) (.skip) (.exit 2)) (.seq (.block 3 (.seq (.region F.mini_Min.r15) (.seq (.region F.mini_Min.r16) (.seq (.seq (.region F.mini_Min.r17) (.cond (.tmp 75) (.exit 3) (.skip))) (.seq (.seq (.region F.mini_Min.r18) (.seq (.region F.mini_Min.r19) (.cond (.tmp 83) (.seq (.region F.mini_Min.r20) (.region F.mini_Min.r21)) (.skip)))) (.region F.mini_Min.r22)))))) (.region F.mini_Min.r23)))
def F.mini_Min.r24 : List DOp := [
 Dd 99 (.faddr 1 (.tmp 9)),
 Dd 100 (.load 1 false (.tmp 99)),
 Dd 101 (.faddr 0 (.tmp 5)),
 Dd 102 (.load 1 false (.tmp 101)),
 Dd 103 (.mv (.tmp 10)),
 Dd 104 (.idxs 1 (.tmp 103) (.const (.int .i64 0))),
 Dd 105 (.load 1 false (.tmp 104)),
 Dd 106 (.idxs 1 (.tmp 102) (.tmp 105)),
 Dd 107 (.load 1 false (.tmp 106)),
 Dd 108 (.bslice 1 1 [.int .i64 0] [(0, 1, .tmp 107)]),
 Dd 109 (.append 1 8 (.tmp 100) (.tmp 108)),
 Dd 110 (.faddr 2 (.tmp 9)),
 Dd 111 (.load 1 false (.tmp 110)),
 Dd 112 (.mv (.tmp 11)),
 Dd 113 (.bslice 1 1 [.slice none 0 0] [(0, 1, .tmp 112)]),
 Dd 114 (.append 1 24 (.tmp 111) (.tmp 113)),
 Dd 115 (.faddr 1 (.tmp 9)),
 De (.store 1 (.tmp 115) (.tmp 109)),
 Dd 116 (.faddr 2 (.tmp 9)),
 De (.store 1 (.tmp 116) (.tmp 114))]
def F.mini_Min.r11 : List DOp := [
 Dd 47 (.mv (.tmp 10)),
 Dd 48 (.slice 1 (.tmp 47) (some (.const (.int .i64 1))) none),
 Dd 10 (.mv (.tmp 48))]
def F.mini_Min.L0 : ACode := .seq (.seq (.region F.mini_Min.r10) (.cond (.tmp 46) (.skip) (.exit 0))) (.seq (.block 1 (.seq (.region F.mini_Min.r12) (.seq (.seq (.draw F.mini_Min.r13 []) (.block 2 (.loop F.mini_Min.L1))) (.draw F.mini_Min.r24 [(12, 10)])))) (.region F.mini_Min.r11))
def F.mini_Min.r25 : List DOp := [
 Dd 117 (.load 3 true (.tmp 9)),
 De (.store 3 (.tmp 2) (.tmp 117)),
 Dd 3 (.mv (.const (.int .i64 0)))]
def F.mini_Min.c : ACode := .seq (.region F.mini_Min.r0) (.seq (.seq (.region F.mini_Min.r1) (.seq (.region F.mini_Min.r2) (.cond (.tmp 20) (.seq (.region F.mini_Min.r3) (.ret)) (.skip)))) (.seq (.region F.mini_Min.r4) (.seq (.region F.mini_Min.r5) (.seq (.region F.mini_Min.r6) (.seq (.region F.mini_Min.r7) (.seq (.region F.mini_Min.r8) (.seq (.seq (.region F.mini_Min.r9) (.block 0 (.loop F.mini_Min.L0))) (.seq (.region F.mini_Min.r25) (.ret)))))))))
def F.mini_Min : AFunc := ⟨F.mini_Min.c, [.cell 2 3 true, .tmp 3]⟩
/-! parlance/mini.complete -/
def F.mini_complete.r0 : List DOp := [
 Dd 1 (.box (.tmp 0)),
 Dd 2 (.alloc [.slice none 0 0, .slice none 0 0, .slice none 0 0])]
def F.mini_complete.r1 : List DOp := [
 Dd 13 (.faddr 2 (.tmp 1)),
 Dd 14 (.load 1 false (.tmp 13)),
 Dd 15 (.len (.tmp 14)),
 Dd 16 (.faddr 2 (.tmp 1)),
 Dd 17 (.load 1 false (.tmp 16)),
 Dd 18 (.idxs 1 (.tmp 17) (.const (.int .i64 0))),
 Dd 19 (.load 1 false (.tmp 18)),
 Dd 20 (.len (.tmp 19)),
 Dd 3 (.mv (.tmp 15)),
 Dd 4 (.mv (.tmp 20))]
def F.mini_complete.r2 : List DOp := [
 Dd 21 (.faddr 1 (.tmp 1)),
 Dd 22 (.load 1 false (.tmp 21)),
 Dd 23 (.call I.slices_Clone_int_int [.tmp 22]),
 Dd 24 (.bslice 1 1 [.int .i64 0] [(0, 1, .const (.int .i64 (-1)))]),
 Dd 25 (.append 1 8 (.tmp 23) (.tmp 24)),
 Dd 26 (.build [.slice none 0 0, .slice none 0 0, .slice none 0 0] [(0, 1, .tmp 25)]),
 Dd 5 (.alloc [.slice none 0 0, .slice none 0 0, .slice none 0 0]),
 De (.store 3 (.tmp 5) (.tmp 26))]
def F.mini_complete.r3 : List DOp := [
 Dd 27 (.mv (.tmp 3)),
 Dd 28 (.bin .add (.tmp 27) (.const (.int .i64 1))),
 Dd 29 (.mv (.const (.int .i64 0)))]
def F.mini_complete.r4 : List DOp := [
 Dd 30 (.bin .lss (.tmp 29) (.tmp 28))]
def F.mini_complete.r5 : List DOp := [
 Dd 31 (.mv (.tmp 29)),
 Dd 6 (.mv (.tmp 31))]
def F.mini_complete.r6 : List DOp := [
 Dd 32 (.mv (.tmp 3)),
 Dd 33 (.bslice 1 1 [.int .i64 0] [(0, 1, .tmp 32)]),
 Dd 34 (.mv (.tmp 4)),
 Dd 35 (.call I.slices_Repeat_int_int [.tmp 33, .tmp 34]),
 Dd 7 (.mv (.tmp 35))]
def F.mini_complete.r7 : List DOp := [
 Dd 36 (.mv (.tmp 6)),
 Dd 37 (.mv (.tmp 3)),
 Dd 38 (.bin .lss (.tmp 36) (.tmp 37))]
def F.mini_complete.r8 : List DOp := [
 Dd 39 (.faddr 2 (.tmp 1)),
 Dd 40 (.load 1 false (.tmp 39)),
 Dd 41 (.mv (.tmp 6)),
 Dd 42 (.idxs 1 (.tmp 40) (.tmp 41)),
 Dd 43 (.load 1 false (.tmp 42)),
 Dd 44 (.len (.tmp 43)),
 Dd 45 (.mv (.const (.int .i64 0)))]
def F.mini_complete.r9 : List DOp := [
 Dd 46 (.bin .lss (.tmp 45) (.tmp 44))]
def F.mini_complete.r10 : List DOp := [
 Dd 47 (.mv (.tmp 45)),
 Dd 48 (.idxs 1 (.tmp 43) (.tmp 45)),
 Dd 49 (.load 1 false (.tmp 48)),
 Dd 8 (.mv (.tmp 47)),
 Dd 9 (.mv (.tmp 49))]
def F.mini_complete.r11 : List DOp := [
 Dd 50 (.mv (.tmp 9)),
 Dd 51 (.bin .geq (.tmp 50) (.const (.int .i64 0)))]
def F.mini_complete.r12 : List DOp := [
 Dd 52 (.mv (.tmp 7)),
 Dd 53 (.mv (.tmp 8)),
 Dd 54 (.mv (.tmp 9)),
 Dd 55 (.idxs 1 (.tmp 52) (.tmp 53)),
 De (.store 1 (.tmp 55) (.tmp 54))]
def F.mini_complete.r13 : List DOp := [
 Dd 56 (.bin .add (.tmp 45) (.const (.int .i64 1))),
 Dd 45 (.mv (.tmp 56))]
def F.mini_complete.L1 : ACode := .seq (.region F.mini_complete.r9) (.seq (.cond (.tmp 46) (.skip) (.exit 2)) (.seq (.block 3 (.seq (.region F.mini_complete.r10) (.seq (.region F.mini_complete.r11) (.cond (.tmp 51) (.region F.mini_complete.r12) (.skip))))) (.region F.mini_complete.r13)))
def F.mini_complete.r14 : List DOp := [
 Dd 57 (.faddr 1 (.tmp 5)),
 Dd 58 (.load 1 false (.tmp 57)),
 Dd 59 (.mv (.tmp 7)),
 Dd 60 (.bslice 1 1 [.slice none 0 0] [(0, 1, .tmp 59)]),
 Dd 61 (.append 1 24 (.tmp 58) (.tmp 60)),
 Dd 62 (.faddr 1 (.tmp 5)),
 De (.store 1 (.tmp 62) (.tmp 61))]
def F.mini_complete.r15 : List DOp := [
 Dd 63 (.bin .add (.tmp 29) (.const (.int .i64 1))),
 Dd 29 (.mv (.tmp 63))]
def F.mini_complete.L0 : ACode := .seq (.region F.mini_complete.r4) (.seq (.cond (.tmp 30) (.skip) (.exit 0)) (.seq (.block 1 (.seq (.region F.mini_complete.r5) (.seq (.region F.mini_complete.r6) (.seq (.seq (.region F.mini_complete.r7) (.cond (.tmp 38) (.seq (.region F.mini_complete.r8) (.block 2 (.loop F.mini_complete.L1))) (.skip))) (.region F.mini_complete.r14))))) (.region F.mini_complete.r15)))
def F.mini_complete.r16 : List DOp := [
 Dd 64 (.mv (.tmp 4)),
 Dd 65 (.mv (.const (.int .i64 0)))]
def F.mini_complete.r17 : List DOp := [
 Dd 66 (.bin .lss (.tmp 65) (.tmp 64))]
def F.mini_complete.r18 : List DOp := [
 Dd 67 (.mv (.tmp 65)),
 Dd 10 (.mv (.tmp 67))]
def F.mini_complete.r19 : List DOp := [
 Dd 68 (.faddr 2 (.tmp 5)),
 Dd 69 (.load 1 false (.tmp 68)),
 Dd 70 (.mv (.tmp 3)),
 Dd 71 (.bin .add (.tmp 70) (.const (.int .i64 1))),
 Dd 72 (.mkslice 1 24 [.slice none 0 0] (.tmp 71) (.tmp 71)),
 Dd 73 (.bslice 1 1 [.slice none 0 0] [(0, 1, .tmp 72)]),
 Dd 74 (.append 1 24 (.tmp 69) (.tmp 73)),
 Dd 75 (.faddr 2 (.tmp 5)),
 De (.store 1 (.tmp 75) (.tmp 74))]
def F.mini_complete.r20 : List DOp := [
 Dd 76 (.faddr 1 (.tmp 5)),
 Dd 77 (.load 1 false (.tmp 76)),
 Dd 78 (.len (.tmp 77)),
 Dd 79 (.mv (.const (.int .i64 0)))]
def F.mini_complete.r21 : List DOp := [
 Dd 80 (.bin .lss (.tmp 79) (.tmp 78))]
def F.mini_complete.r22 : List DOp := [
 Dd 81 (.mv (.tmp 79)),
 Dd 11 (.mv (.tmp 81))]
def F.mini_complete.r23 : List DOp := [
 Dd 82 (.faddr 1 (.tmp 5)),
 Dd 83 (.load 1 false (.tmp 82)),
 Dd 84 (.mv (.tmp 11)),
 Dd 85 (.idxs 1 (.tmp 83) (.tmp 84)),
 Dd 86 (.load 1 false (.tmp 85)),
 Dd 87 (.mv (.tmp 10)),
 Dd 88 (.idxs 1 (.tmp 86) (.tmp 87)),
 Dd 89 (.load 1 false (.tmp 88)),
 Dd 12 (.mv (.tmp 89))]
def F.mini_complete.r24 : List DOp := [
 Dd 90 (.faddr 2 (.tmp 5)),
 Dd 91 (.load 1 false (.tmp 90)),
 Dd 92 (.mv (.tmp 10)),
 Dd 93 (.idxs 1 (.tmp 91) (.tmp 92)),
 Dd 94 (.load 1 false (.tmp 93)),
 Dd 95 (.mv (.tmp 12)),
 Dd 96 (.faddr 2 (.tmp 5)),
 Dd 97 (.load 1 false (.tmp 96)),
 Dd 98 (.mv (.tmp 10)),
 Dd 99 (.idxs 1 (.tmp 97) (.tmp 98)),
 Dd 100 (.load 1 false (.tmp 99)),
 Dd 101 (.mv (.tmp 12)),
 Dd 102 (.idxs 1 (.tmp 100) (.tmp 101)),
 Dd 103 (.load 1 false (.tmp 102)),
 Dd 104 (.mv (.tmp 11)),
 Dd 105 (.bslice 1 1 [.int .i64 0] [(0, 1, .tmp 104)]),
 Dd 106 (.append 1 8 (.tmp 103) (.tmp 105)),
 Dd 107 (.idxs 1 (.tmp 94) (.tmp 95)),
 De (.store 1 (.tmp 107) (.tmp 106))]
def F.mini_complete.r25 : List DOp := [
 Dd 108 (.bin .add (.tmp 79) (.const (.int .i64 1))),
 Dd 79 (.mv (.tmp 108))]
def F.mini_complete.L3 : ACode := .seq (.region F.mini_complete.r21) (.seq (.cond (.tmp 80) (.skip) (.exit 6)) (.seq (.block 7 (.seq (.region F.mini_complete.r22) (.seq (.region F.mini_complete.r23) (.draw F.mini_complete.r24 [(1, 16), (4, 16)])))) (.region F.mini_complete.r25)))
def F.mini_complete.r26 : List DOp := [
 Dd 109 (.bin .add (.tmp 65) (.const (.int .i64 1))),
 Dd 65 (.mv (.tmp 109))]
def F.mini_complete.L2 : ACode := .seq (.region F.mini_complete.r17) (.seq (.cond (.tmp 66) (.skip) (.exit 4)) (.seq (.block 5 (.seq (.region F.mini_complete.r18) (.seq (.draw F.mini_complete.r19 []) (.seq (.region F.mini_complete.r20) (.block 6 (.loop F.mini_complete.L3)))))) (.region F.mini_complete.r26)))
def F.mini_complete.r27 : List DOp := [
 Dd 110 (.load 3 true (.tmp 5)),
 De (.store 3 (.tmp 2) (.tmp 110))]
def F.mini_complete.c : ACode := .seq (.region F.mini_complete.r0) (.seq (.draw F.mini_complete.r1 []) (.seq (.region F.mini_complete.r2) (.seq (.seq (.region F.mini_complete.r3) (.block 0 (.loop F.mini_complete.L0))) (.seq (.seq (.region F.mini_complete.r16) (.block 4 (.loop F.mini_complete.L2))) (.seq (.region F.mini_complete.r27) (.ret))))))
def F.mini_complete : AFunc := ⟨F.mini_complete.c, [.cell 2 3 true]⟩
/-! parlance/mini.hopcroft -/
def F.mini_hopcroft.r0 : List DOp := [
 Dd 1 (.box (.tmp 0)),
 Dd 2 (.mv (.const (.slice none 0 0)))]
def F.mini_hopcroft.r1 : List DOp := [
 Dd 15 (.faddr 0 (.tmp 1)),
 Dd 16 (.load 1 false (.tmp 15)),
 Dd 17 (.call I.mini_begin [.tmp 16]),
 Dd 3 (.mv (.tmp 17))]
def F.mini_hopcroft.r2 : List DOp := [
 Dd 4 (.mv (.const (.slice none 0 0)))]
def F.mini_hopcroft.r3 : List DOp := [
 Dd 18 (.mv (.tmp 3)),
 Dd 19 (.nilchk (.tmp 18)),
 Dd 20 (.faddr 1 (.tmp 19)),
 Dd 21 (.load 1 false (.tmp 20)),
 Dd 22 (.len (.tmp 21)),
 Dd 23 (.mv (.const (.int .i64 0)))]
def F.mini_hopcroft.r4 : List DOp := [
 Dd 24 (.bin .lss (.tmp 23) (.tmp 22))]
def F.mini_hopcroft.r5 : List DOp := [
 Dd 25 (.mv (.tmp 23)),
 Dd 5 (.mv (.tmp 25))]
def F.mini_hopcroft.r6 : List DOp := [
 Dd 26 (.faddr 2 (.tmp 1)),
 Dd 27 (.load 1 false (.tmp 26)),
 Dd 28 (.len (.tmp 27)),
 Dd 29 (.mv (.const (.int .i64 0)))]
def F.mini_hopcroft.r7 : List DOp := [
 Dd 30 (.bin .lss (.tmp 29) (.tmp 28))]
def F.mini_hopcroft.r8 : List DOp := [
 Dd 31 (.mv (.tmp 29)),
 Dd 6 (.mv (.tmp 31))]
def F.mini_hopcroft.r9 : List DOp := [
 Dd 32 (.mv (.tmp 4)),
 Dd 33 (.mv (.tmp 5)),
 Dd 34 (.mv (.tmp 6)),
 Dd 35 (.build [.int .i64 0, .int .i64 0] [(0, 1, .tmp 33), (1, 1, .tmp 34)]),
 Dd 36 (.bslice 2 1 [.int .i64 0, .int .i64 0] [(0, 2, .tmp 35)]),
 Dd 37 (.append 2 16 (.tmp 32) (.tmp 36)),
 Dd 4 (.mv (.tmp 37))]
def F.mini_hopcroft.r10 : List DOp := [
 Dd 38 (.bin .add (.tmp 29) (.const (.int .i64 1))),
 Dd 29 (.mv (.tmp 38))]
def F.mini_hopcroft.L1 : ACode := .seq (.region F.mini_hopcroft.r7) (.seq (.cond (.tmp 30) (.skip) (.exit 2)) (.seq (.block 3 (.seq (.region F.mini_hopcroft.r8) (.region F.mini_hopcroft.r9))) (.region F.mini_hopcroft.r10)))
def F.mini_hopcroft.r11 : List DOp := [
 Dd 39 (.bin .add (.tmp 23) (.const (.int .i64 1))),
 Dd 23 (.mv (.tmp 39))]
def F.mini_hopcroft.L0 : ACode := .seq (.region F.mini_hopcroft.r4) (.seq (.cond (.tmp 24) (.skip) (.exit 0)) (.seq (.block 1 (.seq (.region F.mini_hopcroft.r5) (.seq (.region F.mini_hopcroft.r6) (.block 2 (.loop F.mini_hopcroft.L1))))) (.region F.mini_hopcroft.r11)))
def F.mini_hopcroft.r12 : List DOp := [
 Dd 40 (.mv (.tmp 4)),
 Dd 41 (.len (.tmp 40)),
 Dd 42 (.bin .gtr (.tmp 41) (.const (.int .i64 0)))]
def F.mini_hopcroft.r13 : List DOp := [
 Dd 43 (.mv (.tmp 4)),
 Dd 44 (.mv (.tmp 4)),
 Dd 45 (.len (.tmp 44)),
 Dd 46 (.bin .sub (.tmp 45) (.const (.int .i64 1))),
 Dd 47 (.idxs 2 (.tmp 43) (.tmp 46)),
 Dd 48 (.load 2 true (.tmp 47)),
 Dd 7 (.alloc [.int .i64 0, .int .i64 0]),
 De (.store 2 (.tmp 7) (.tmp 48))]
def F.mini_hopcroft.r14 : List DOp := [
 Dd 49 (.mv (.tmp 4)),
 Dd 50 (.mv (.tmp 4)),
 Dd 51 (.len (.tmp 50)),
 Dd 52 (.bin .sub (.tmp 51) (.const (.int .i64 1))),
 Dd 53 (.slice 2 (.tmp 49) none (some (.tmp 52))),
 Dd 4 (.mv (.tmp 53))]
def F.mini_hopcroft.r15 : List DOp := [
 Dd 8 (.mv (.const (.slice none 0 0)))]
def F.mini_hopcroft.r16 : List DOp := [
 Dd 54 (.mv (.tmp 3)),
 Dd 55 (.nilchk (.tmp 54)),
 Dd 56 (.faddr 1 (.tmp 55)),
 Dd 57 (.load 1 false (.tmp 56)),
 Dd 58 (.faddr 0 (.tmp 7)),
 Dd 59 (.load 1 false (.tmp 58)),
 Dd 60 (.idxs 1 (.tmp 57) (.tmp 59)),
 Dd 61 (.load 1 false (.tmp 60)),
 Dd 62 (.len (.tmp 61)),
 Dd 63 (.mv (.const (.int .i64 0)))]
def F.mini_hopcroft.r17 : List DOp := [
 Dd 64 (.bin .lss (.tmp 63) (.tmp 62))]
def F.mini_hopcroft.r18 : List DOp := [
 Dd 65 (.idxs 1 (.tmp 61) (.tmp 63)),
 Dd 66 (.load 1 false (.tmp 65)),
 Dd 10 (.mv (.tmp 66))]
def F.mini_hopcroft.r19 : List DOp := [
 Dd 67 (.mv (.tmp 8)),
 Dd 68 (.faddr 2 (.tmp 1)),
 Dd 69 (.load 1 false (.tmp 68)),
 Dd 70 (.faddr 1 (.tmp 7)),
 Dd 71 (.load 1 false (.tmp 70)),
 Dd 72 (.idxs 1 (.tmp 69) (.tmp 71)),
 Dd 73 (.load 1 false (.tmp 72)),
 Dd 74 (.mv (.tmp 10)),
 Dd 75 (.idxs 1 (.tmp 73) (.tmp 74)),
 Dd 76 (.load 1 false (.tmp 75)),
 Dd 77 (.append 1 8 (.tmp 67) (.tmp 76)),
 Dd 8 (.mv (.tmp 77))]
def F.mini_hopcroft.r20 : List DOp := [
 Dd 78 (.bin .add (.tmp 63) (.const (.int .i64 1))),
 Dd 63 (.mv (.tmp 78))]
def F.mini_hopcroft.L3 : ACode := .seq (.region F.mini_hopcroft.r17) (.seq (.cond (.tmp 64) (.skip) (.exit 6)) (.seq (.block 7 (.seq (.region F.mini_hopcroft.r18) (.region F.mini_hopcroft.r19))) (.region F.mini_hopcroft.r20)))
def F.mini_hopcroft.r21 : List DOp := [
 Dd 79 (.mv (.tmp 3)),
 Dd 80 (.mv (.tmp 8)),
 Dd 81 (.call I.mini_parts_split [.tmp 79, .tmp 80]),
 Dd 82 (.len (.tmp 81)),
 Dd 83 (.mv (.const (.int .i64 0)))]
def F.mini_hopcroft.r22 : List DOp := [
 Dd 84 (.bin .lss (.tmp 83) (.tmp 82))]
def F.mini_hopcroft.r23 : List DOp := [
 Dd 85 (.idxs 2 (.tmp 81) (.tmp 83)),
 Dd 86 (.load 2 true (.tmp 85)),
 Dd 12 (.alloc [.int .i64 0, .int .i64 0]),
 De (.store 2 (.tmp 12) (.tmp 86))]
def F.mini_hopcroft.r24 : List DOp := [
 Dd 87 (.faddr 2 (.tmp 1)),
 Dd 88 (.load 1 false (.tmp 87)),
 Dd 89 (.len (.tmp 88)),
 Dd 90 (.mv (.const (.int .i64 0)))]
def F.mini_hopcroft.r25 : List DOp := [
 Dd 91 (.bin .lss (.tmp 90) (.tmp 89))]
def F.mini_hopcroft.r26 : List DOp := [
 Dd 92 (.mv (.tmp 90)),
 Dd 13 (.mv (.tmp 92))]
def F.mini_hopcroft.r27 : List DOp := [
 Dd 93 (.idxa 2 1 (.tmp 12) (.const (.int .i64 1))),
 Dd 94 (.load 1 false (.tmp 93)),
 Dd 14 (.mv (.tmp 94))]
def F.mini_hopcroft.r28 : List DOp := [
 Dd 95 (.mv (.tmp 3)),
 Dd 96 (.nilchk (.tmp 95)),
 Dd 97 (.faddr 1 (.tmp 96)),
 Dd 98 (.load 1 false (.tmp 97)),
 Dd 99 (.idxa 2 1 (.tmp 12) (.const (.int .i64 0))),
 Dd 100 (.load 1 false (.tmp 99)),
 Dd 101 (.idxs 1 (.tmp 98) (.tmp 100)),
 Dd 102 (.load 1 false (.tmp 101)),
 Dd 103 (.len (.tmp 102)),
 Dd 104 (.mv (.tmp 3)),
 Dd 105 (.nilchk (.tmp 104)),
 Dd 106 (.faddr 1 (.tmp 105)),
 Dd 107 (.load 1 false (.tmp 106)),
 Dd 108 (.idxa 2 1 (.tmp 12) (.const (.int .i64 1))),
 Dd 109 (.load 1 false (.tmp 108)),
 Dd 110 (.idxs 1 (.tmp 107) (.tmp 109)),
 Dd 111 (.load 1 false (.tmp 110)),
 Dd 112 (.len (.tmp 111)),
 Dd 113 (.bin .lss (.tmp 103) (.tmp 112)),
 Dd 114 (.mv (.tmp 113)),
 ⟨some 115, .mv (.tmp 4), (some (114, true)), []⟩,
 ⟨some 116, .idxa 2 1 (.tmp 12) (.const (.int .i64 0)), (some (114, true)), []⟩,
 ⟨some 117, .load 1 false (.tmp 116), (some (114, true)), []⟩,
 ⟨some 118, .mv (.tmp 13), (some (114, true)), []⟩,
 ⟨some 119, .build [.int .i64 0, .int .i64 0] [(0, 1, .tmp 117), (1, 1, .tmp 118)], (some (114, true)), []⟩,
 ⟨some 120, .call I.slices_Contains_mini_task_mini_task [.tmp 115, .tmp 119], (some (114, true)), []⟩,
 ⟨some 121, .un .not (.tmp 120), (some (114, true)), []⟩,
 Dd 122 (.pick (.tmp 114) (.tmp 121) (.const (.bool false)))]
def F.mini_hopcroft.r29 : List DOp := [
 Dd 123 (.idxa 2 1 (.tmp 12) (.const (.int .i64 0))),
 Dd 124 (.load 1 false (.tmp 123)),
 Dd 14 (.mv (.tmp 124))]
def F.mini_hopcroft.r30 : List DOp := [
 Dd 125 (.mv (.tmp 4)),
 Dd 126 (.mv (.tmp 14)),
 Dd 127 (.mv (.tmp 13)),
 Dd 128 (.build [.int .i64 0, .int .i64 0] [(0, 1, .tmp 126), (1, 1, .tmp 127)]),
 Dd 129 (.bslice 2 1 [.int .i64 0, .int .i64 0] [(0, 2, .tmp 128)]),
 Dd 130 (.append 2 16 (.tmp 125) (.tmp 129)),
 Dd 4 (.mv (.tmp 130))]
def F.mini_hopcroft.r31 : List DOp := [
 Dd 131 (.bin .add (.tmp 90) (.const (.int .i64 1))),
 Dd 90 (.mv (.tmp 131))]
def F.mini_hopcroft.L5 : ACode := .seq (.region F.mini_hopcroft.r25) (.seq (.cond (.tmp 91) (.skip) (.exit 10)) (.seq (.block 11 (.seq (.region F.mini_hopcroft.r26) (.seq (.region F.mini_hopcroft.r27) (.seq (.seq (.draw F.mini_hopcroft.r28 []) (.cond (.tmp 122) (.region F.mini_hopcroft.r29) (.skip))) (.region F.mini_hopcroft.r30))))) (.region F.mini_hopcroft.r31)))
def F.mini_hopcroft.r32 : List DOp := [
 Dd 132 (.bin .add (.tmp 83) (.const (.int .i64 1))),
 Dd 83 (.mv (.tmp 132))]
def F.mini_hopcroft.L4 : ACode := .seq (.region F.mini_hopcroft.r22) (.seq (.cond (.tmp 84) (.skip) (.exit 8)) (.seq (.block 9 (.seq (.region F.mini_hopcroft.r23) (.seq (.region F.mini_hopcroft.r24) (.block 10 (.loop F.mini_hopcroft.L5))))) (.region F.mini_hopcroft.r32)))
def F.mini_hopcroft.L2 : ACode := .seq (.seq (.region F.mini_hopcroft.r12) (.cond (.tmp 42) (.skip) (.exit 4))) (.block 5 (.seq (.region F.mini_hopcroft.r13) (.seq (.region F.mini_hopcroft.r14) (.seq (.region F.mini_hopcroft.r15) (.seq (.seq (.draw F.mini_hopcroft.r16 []) (.block 6 (.loop F.mini_hopcroft.L3))) (.seq (.region F.mini_hopcroft.r21) (.block 8 (.loop F.mini_hopcroft.L4))))))))
def F.mini_hopcroft.r33 : List DOp := [
 Dd 133 (.mv (.tmp 3)),
 Dd 134 (.nilchk (.tmp 133)),
 Dd 135 (.faddr 0 (.tmp 134)),
 Dd 136 (.load 1 false (.tmp 135)),
 Dd 2 (.mv (.tmp 136))]
def F.mini_hopcroft.c : ACode := .seq (.region F.mini_hopcroft.r0) (.seq (.region F.mini_hopcroft.r1) (.seq (.region F.mini_hopcroft.r2) (.seq (.seq (.region F.mini_hopcroft.r3) (.block 0 (.loop F.mini_hopcroft.L0))) (.seq (.block 4 (.loop F.mini_hopcroft.L2)) (.seq (.region F.mini_hopcroft.r33) (.ret))))))
def F.mini_hopcroft : AFunc := ⟨F.mini_hopcroft.c, [.tmp 2]⟩
/-! parlance/mini.begin -/
def F.mini_begin.r0 : List DOp := [
 Dd 2 (.mv (.const (.pointer none)))]
def F.mini_begin.r1 : List DOp := [
 Dd 9 (.mv (.tmp 0)),
 Dd 10 (.len (.tmp 9)),
 Dd 11 (.mkslice 1 8 [.int .i64 0] (.tmp 10) (.tmp 10)),
 Dd 12 (.build [.slice none 0 0, .slice none 0 0] [(0, 1, .tmp 11)]),
 Dd 13 (.box (.tmp 12)),
 Dd 3 (.mv (.tmp 13))]
def F.mini_begin.r2 : List DOp := [
 Dd 14 (.mkmap),
 Dd 4 (.mv (.tmp 14))]
def F.mini_begin.r3 : List DOp := [
 Dd 15 (.mv (.tmp 0)),
 Dd 16 (.len (.tmp 15)),
 Dd 17 (.mv (.const (.int .i64 0)))]
def F.mini_begin.r4 : List DOp := [
 Dd 18 (.bin .lss (.tmp 17) (.tmp 16))]
def F.mini_begin.r5 : List DOp := [
 Dd 19 (.mv (.tmp 17)),
 Dd 20 (.idxs 1 (.tmp 15) (.tmp 17)),
 Dd 21 (.load 1 false (.tmp 20)),
 Dd 5 (.mv (.tmp 19)),
 Dd 6 (.mv (.tmp 21))]
def F.mini_begin.r6 : List DOp := [
 Dd 23 (.mv (.tmp 4)),
 Dd 24 (.mv (.tmp 6)),
 Dd 25 (.mlook .int (.int .i64 0) true (.tmp 23) (.tmp 24)),
 Dd 22 (.mv (.tmp 25)),
 Dd 26 (.extract (.tmp 22) 0),
 Dd 27 (.extract (.tmp 22) 1),
 Dd 7 (.mv (.tmp 26)),
 Dd 8 (.mv (.tmp 27))]
def F.mini_begin.r7 : List DOp := [
 Dd 28 (.mv (.tmp 8)),
 Dd 29 (.un .not (.tmp 28))]
def F.mini_begin.r8 : List DOp := [
 Dd 30 (.mv (.tmp 3)),
 Dd 31 (.nilchk (.tmp 30)),
 Dd 32 (.faddr 1 (.tmp 31)),
 Dd 33 (.load 1 false (.tmp 32)),
 Dd 34 (.len (.tmp 33)),
 Dd 7 (.mv (.tmp 34))]
def F.mini_begin.r9 : List DOp := [
 Dd 35 (.mv (.tmp 4)),
 Dd 36 (.mv (.tmp 6)),
 Dd 37 (.mv (.tmp 7)),
 De (.mset .int (.tmp 35) (.tmp 36) (.tmp 37))]
def F.mini_begin.r10 : List DOp := [
 Dd 38 (.mv (.tmp 3)),
 Dd 39 (.mv (.tmp 3)),
 Dd 40 (.nilchk (.tmp 39)),
 Dd 41 (.faddr 1 (.tmp 40)),
 Dd 42 (.load 1 false (.tmp 41)),
 Dd 43 (.bslice 1 1 [.slice none 0 0] [(0, 1, .const (.slice none 0 0))]),
 Dd 44 (.append 1 24 (.tmp 42) (.tmp 43)),
 Dd 45 (.nilchk (.tmp 38)),
 Dd 46 (.faddr 1 (.tmp 45)),
 De (.store 1 (.tmp 46) (.tmp 44))]
def F.mini_begin.r11 : List DOp := [
 Dd 47 (.mv (.tmp 3)),
 Dd 48 (.nilchk (.tmp 47)),
 Dd 49 (.faddr 0 (.tmp 48)),
 Dd 50 (.load 1 false (.tmp 49)),
 Dd 51 (.mv (.tmp 5)),
 Dd 52 (.mv (.tmp 3)),
 Dd 53 (.nilchk (.tmp 52)),
 Dd 54 (.faddr 1 (.tmp 53)),
 Dd 55 (.load 1 false (.tmp 54)),
 Dd 56 (.mv (.tmp 7)),
 Dd 57 (.mv (.tmp 7)),
 Dd 58 (.mv (.tmp 3)),
 Dd 59 (.nilchk (.tmp 58)),
 Dd 60 (.faddr 1 (.tmp 59)),
 Dd 61 (.load 1 false (.tmp 60)),
 Dd 62 (.mv (.tmp 7)),
 Dd 63 (.idxs 1 (.tmp 61) (.tmp 62)),
 Dd 64 (.load 1 false (.tmp 63)),
 Dd 65 (.mv (.tmp 5)),
 Dd 66 (.bslice 1 1 [.int .i64 0] [(0, 1, .tmp 65)]),
 Dd 67 (.append 1 8 (.tmp 64) (.tmp 66)),
 Dd 68 (.idxs 1 (.tmp 50) (.tmp 51)),
 De (.store 1 (.tmp 68) (.tmp 57)),
 Dd 69 (.idxs 1 (.tmp 55) (.tmp 56)),
 De (.store 1 (.tmp 69) (.tmp 67))]
def F.mini_begin.r12 : List DOp := [
 Dd 70 (.bin .add (.tmp 17) (.const (.int .i64 1))),
 Dd 17 (.mv (.tmp 70))]
def F.mini_begin.L0 : ACode := .seq (.region F.mini_begin.r4) (.seq (.cond (.tmp 18) (.skip) (.exit 0)) (.seq (.block 1 (.seq (.region F.mini_begin.r5) (.seq (.region F.mini_begin.r6) (.seq (.seq (.region F.mini_begin.r7) (.cond (.tmp 29) (.seq (.region F.mini_begin.r8) (.seq (.region F.mini_begin.r9) (.region F.mini_begin.r10))) (.skip))) (.draw F.mini_begin.r11 [(3, 20), (8, 20)]))))) (.region F.mini_begin.r12)))
def F.mini_begin.r13 : List DOp := [
 Dd 71 (.mv (.tmp 3)),
 Dd 2 (.mv (.tmp 71))]
def F.mini_begin.c : ACode := .seq (.region F.mini_begin.r0) (.seq (.region F.mini_begin.r1) (.seq (.region F.mini_begin.r2) (.seq (.seq (.region F.mini_begin.r3) (.block 0 (.loop F.mini_begin.L0))) (.seq (.region F.mini_begin.r13) (.ret)))))
def F.mini_begin : AFunc := ⟨F.mini_begin.c, [.tmp 2]⟩
/-! (*parlance/mini.parts).split -/
def F.mini_parts_split.r0 : List DOp := [
 Dd 4 (.mv (.const (.slice none 0 0)))]
def F.mini_parts_split.r1 : List DOp := [
 Dd 19 (.mkmap),
 Dd 5 (.mv (.tmp 19))]
def F.mini_parts_split.r2 : List DOp := [
 Dd 6 (.mv (.const (.slice none 0 0)))]
def F.mini_parts_split.r3 : List DOp := [
 Dd 20 (.mv (.tmp 1)),
 Dd 21 (.len (.tmp 20)),
 Dd 22 (.mv (.const (.int .i64 0)))]
def F.mini_parts_split.r4 : List DOp := [
 Dd 23 (.bin .lss (.tmp 22) (.tmp 21))]
def F.mini_parts_split.r5 : List DOp := [
 Dd 24 (.idxs 1 (.tmp 20) (.tmp 22)),
 Dd 25 (.load 1 false (.tmp 24)),
 Dd 8 (.mv (.tmp 25))]
def F.mini_parts_split.r6 : List DOp := [
 Dd 26 (.mv (.tmp 5)),
 Dd 27 (.mv (.tmp 8)),
 De (.mset .int (.tmp 26) (.tmp 27) (.const (.bool true)))]
def F.mini_parts_split.r7 : List DOp := [
 Dd 28 (.mv (.tmp 6)),
 Dd 29 (.mv (.tmp 0)),
 Dd 30 (.nilchk (.tmp 29)),
 Dd 31 (.faddr 0 (.tmp 30)),
 Dd 32 (.load 1 false (.tmp 31)),
 Dd 33 (.mv (.tmp 8)),
 Dd 34 (.idxs 1 (.tmp 32) (.tmp 33)),
 Dd 35 (.load 1 false (.tmp 34)),
 Dd 36 (.call I.slices_Contains_int_int [.tmp 28, .tmp 35]),
 Dd 37 (.un .not (.tmp 36))]
def F.mini_parts_split.r8 : List DOp := [
 Dd 38 (.mv (.tmp 6)),
 Dd 39 (.mv (.tmp 0)),
 Dd 40 (.nilchk (.tmp 39)),
 Dd 41 (.faddr 0 (.tmp 40)),
 Dd 42 (.load 1 false (.tmp 41)),
 Dd 43 (.mv (.tmp 8)),
 Dd 44 (.idxs 1 (.tmp 42) (.tmp 43)),
 Dd 45 (.load 1 false (.tmp 44)),
 Dd 46 (.bslice 1 1 [.int .i64 0] [(0, 1, .tmp 45)]),
 Dd 47 (.append 1 8 (.tmp 38) (.tmp 46)),
 Dd 6 (.mv (.tmp 47))]
def F.mini_parts_split.r9 : List DOp := [
 Dd 48 (.bin .add (.tmp 22) (.const (.int .i64 1))),
 Dd 22 (.mv (.tmp 48))]
def F.mini_parts_split.L0 : ACode := .seq (.region F.mini_parts_split.r4) (.seq (.cond (.tmp 23) (.skip) (.exit 0)) (.seq (.block 1 (.seq (.region F.mini_parts_split.r5) (.seq (.region F.mini_parts_split.r6) (.seq (.region F.mini_parts_split.r7) (.cond (.tmp 37) (.region F.mini_parts_split.r8) (.skip)))))) (.region F.mini_parts_split.r9)))
def F.mini_parts_split.r10 : List DOp := [
 Dd 9 (.mv (.const (.slice none 0 0)))]
def F.mini_parts_split.r11 : List DOp := [
 Dd 49 (.mv (.tmp 6)),
 Dd 50 (.len (.tmp 49)),
 Dd 51 (.mv (.const (.int .i64 0)))]
def F.mini_parts_split.r12 : List DOp := [
 Dd 52 (.bin .lss (.tmp 51) (.tmp 50))]
def F.mini_parts_split.r13 : List DOp := [
 Dd 53 (.idxs 1 (.tmp 49) (.tmp 51)),
 Dd 54 (.load 1 false (.tmp 53)),
 Dd 11 (.mv (.tmp 54))]
def F.mini_parts_split.r14 : List DOp := [
 Dd 12 (.mv (.const (.slice none 0 0))),
 Dd 13 (.mv (.const (.slice none 0 0)))]
def F.mini_parts_split.r15 : List DOp := [
 Dd 55 (.mv (.tmp 0)),
 Dd 56 (.nilchk (.tmp 55)),
 Dd 57 (.faddr 1 (.tmp 56)),
 Dd 58 (.load 1 false (.tmp 57)),
 Dd 59 (.mv (.tmp 11)),
 Dd 60 (.idxs 1 (.tmp 58) (.tmp 59)),
 Dd 61 (.load 1 false (.tmp 60)),
 Dd 62 (.len (.tmp 61)),
 Dd 63 (.mv (.const (.int .i64 0)))]
def F.mini_parts_split.r16 : List DOp := [
 Dd 64 (.bin .lss (.tmp 63) (.tmp 62))]
def F.mini_parts_split.r17 : List DOp := [
 Dd 65 (.idxs 1 (.tmp 61) (.tmp 63)),
 Dd 66 (.load 1 false (.tmp 65)),
 Dd 15 (.mv (.tmp 66))]
def F.mini_parts_split.r18 : List DOp := [
 Dd 67 (.mv (.tmp 5)),
 Dd 68 (.mv (.tmp 15)),
 Dd 69 (.mlook .int (.bool false) false (.tmp 67) (.tmp 68))]
def F.mini_parts_split.r19 : List DOp := [
 Dd 70 (.mv (.tmp 12)),
 Dd 71 (.mv (.tmp 15)),
 Dd 72 (.bslice 1 1 [.int .i64 0] [(0, 1, .tmp 71)]),
 Dd 73 (.append 1 8 (.tmp 70) (.tmp 72)),
 Dd 12 (.mv (.tmp 73))]
def F.mini_parts_split.r20 : List DOp := [
 Dd 74 (.mv (.tmp 13)),
 Dd 75 (.mv (.tmp 15)),
 Dd 76 (.bslice 1 1 [.int .i64 0] [(0, 1, .tmp 75)]),
 Dd 77 (.append 1 8 (.tmp 74) (.tmp 76)),
 Dd 13 (.mv (.tmp 77))]
def F.mini_parts_split.r21 : List DOp := [
 Dd 78 (.bin .add (.tmp 63) (.const (.int .i64 1))),
 Dd 63 (.mv (.tmp 78))]
def F.mini_parts_split.L2 : ACode := .seq (.region F.mini_parts_split.r16) (.seq (.cond (.tmp 64) (.skip) (.exit 4)) (.seq (.block 5 (.seq (.region F.mini_parts_split.r17) (.seq (.region F.mini_parts_split.r18) (.cond (.tmp 69) (.region F.mini_parts_split.r19) (.region F.mini_parts_split.r20))))) (.region F.mini_parts_split.r21)))
def F.mini_parts_split.r22 : List DOp := [
 Dd 79 (.mv (.tmp 13)),
 Dd 80 (.len (.tmp 79)),
 Dd 81 (.bin .eql (.tmp 80) (.const (.int .i64 0)))]
def F.mini_parts_split.r23 : List DOp := [
 Dd 82 (.mv (.tmp 0)),
 Dd 83 (.nilchk (.tmp 82)),
 Dd 84 (.faddr 1 (.tmp 83)),
 Dd 85 (.load 1 false (.tmp 84)),
 Dd 86 (.len (.tmp 85)),
 Dd 16 (.mv (.tmp 86))]
def F.mini_parts_split.r24 : List DOp := [
 Dd 87 (.mv (.tmp 0)),
 Dd 88 (.nilchk (.tmp 87)),
 Dd 89 (.faddr 1 (.tmp 88)),
 Dd 90 (.load 1 false (.tmp 89)),
 Dd 91 (.mv (.tmp 11)),
 Dd 92 (.mv (.tmp 12)),
 Dd 93 (.idxs 1 (.tmp 90) (.tmp 91)),
 De (.store 1 (.tmp 93) (.tmp 92))]
def F.mini_parts_split.r25 : List DOp := [
 Dd 94 (.mv (.tmp 0)),
 Dd 95 (.mv (.tmp 0)),
 Dd 96 (.nilchk (.tmp 95)),
 Dd 97 (.faddr 1 (.tmp 96)),
 Dd 98 (.load 1 false (.tmp 97)),
 Dd 99 (.mv (.tmp 13)),
 Dd 100 (.bslice 1 1 [.slice none 0 0] [(0, 1, .tmp 99)]),
 Dd 101 (.append 1 24 (.tmp 98) (.tmp 100)),
 Dd 102 (.nilchk (.tmp 94)),
 Dd 103 (.faddr 1 (.tmp 102)),
 De (.store 1 (.tmp 103) (.tmp 101))]
def F.mini_parts_split.r26 : List DOp := [
 Dd 104 (.mv (.tmp 13)),
 Dd 105 (.len (.tmp 104)),
 Dd 106 (.mv (.const (.int .i64 0)))]
def F.mini_parts_split.r27 : List DOp := [
 Dd 107 (.bin .lss (.tmp 106) (.tmp 105))]
def F.mini_parts_split.r28 : List DOp := [
 Dd 108 (.idxs 1 (.tmp 104) (.tmp 106)),
 Dd 109 (.load 1 false (.tmp 108)),
 Dd 18 (.mv (.tmp 109))]
def F.mini_parts_split.r29 : List DOp := [
 Dd 110 (.mv (.tmp 0)),
 Dd 111 (.nilchk (.tmp 110)),
 Dd 112 (.faddr 0 (.tmp 111)),
 Dd 113 (.load 1 false (.tmp 112)),
 Dd 114 (.mv (.tmp 18)),
 Dd 115 (.mv (.tmp 16)),
 Dd 116 (.idxs 1 (.tmp 113) (.tmp 114)),
 De (.store 1 (.tmp 116) (.tmp 115))]
def F.mini_parts_split.r30 : List DOp := [
 Dd 117 (.bin .add (.tmp 106) (.const (.int .i64 1))),
 Dd 106 (.mv (.tmp 117))]
def F.mini_parts_split.L3 : ACode := .seq (.region F.mini_parts_split.r27) (.seq (.cond (.tmp 107) (.skip) (.exit 6)) (.seq (.block 7 (.seq (.region F.mini_parts_split.r28) (.region F.mini_parts_split.r29))) (.region F.mini_parts_split.r30)))
def F.mini_parts_split.r31 : List DOp := [
 Dd 118 (.mv (.tmp 9)),
 Dd 119 (.mv (.tmp 11)),
 Dd 120 (.mv (.tmp 16)),
 Dd 121 (.build [.int .i64 0, .int .i64 0] [(0, 1, .tmp 119), (1, 1, .tmp 120)]),
 Dd 122 (.bslice 2 1 [.int .i64 0, .int .i64 0] [(0, 2, .tmp 121)]),
 Dd 123 (.append 2 16 (.tmp 118) (.tmp 122)),
 Dd 9 (.mv (.tmp 123))]
def F.mini_parts_split.r32 : List DOp := [
 Dd 124 (.bin .add (.tmp 51) (.const (.int .i64 1))),
 Dd 51 (.mv (.tmp 124))]
def F.mini_parts_split.L1 : ACode := .seq (.region F.mini_parts_split.r12) (.seq (.cond (.tmp 52) (.skip) (.exit 2)) (.seq (.block 3 (.seq (.region F.mini_parts_split.r13) (.seq (.region F.mini_parts_split.r14) (.seq (.seq (.region F.mini_parts_split.r15) (.block 4 (.loop F.mini_parts_split.L2))) (.seq (.seq (.region F.mini_parts_split.r22) (.cond (.tmp 81) (.exit 3) (.skip))) (.seq (.region F.mini_parts_split.r23) (.seq (.region F.mini_parts_split.r24) (.seq (.region F.mini_parts_split.r25) (.seq (.seq (.region F.mini_parts_split.r26) (.block 6 (.loop F.mini_parts_split.L3))) (.region F.mini_parts_split.r31)))))))))) (.region F.mini_parts_split.r32)))
def F.mini_parts_split.r33 : List DOp := [
 Dd 125 (.mv (.tmp 9)),
 Dd 4 (.mv (.tmp 125))]
def F.mini_parts_split.c : ACode := .seq (.region F.mini_parts_split.r0) (.seq (.region F.mini_parts_split.r1) (.seq (.region F.mini_parts_split.r2) (.seq (.seq (.region F.mini_parts_split.r3) (.block 0 (.loop F.mini_parts_split.L0))) (.seq (.region F.mini_parts_split.r10) (.seq (.seq (.region F.mini_parts_split.r11) (.block 2 (.loop F.mini_parts_split.L1))) (.seq (.region F.mini_parts_split.r33) (.ret)))))))
def F.mini_parts_split : AFunc := ⟨F.mini_parts_split.c, [.tmp 4]⟩
end Go.Proofs.Ytmlnknngpdnepaa
