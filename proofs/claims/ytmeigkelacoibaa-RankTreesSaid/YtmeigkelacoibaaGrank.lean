import Derived.Test.YtmeigkelacoibaaI
namespace Go.Proofs.Ytmeigkelacoibaa
open Go Go.Ab
def F.G0.r0 : List DOp := [
 Dd 2 (.box (.tmp 0)),
 Dd 4 (.mv (.const (.int .i64 0))),
 Dd 5 (.mv (.const (.int .i64 0)))]
def F.G0.r1 : List DOp := [
 Dd 10 (.load 4 true (.tmp 2)),
 Dd 11 (.mv (.tmp 1)),
 Dd 12 (.call I.E8 [.tmp 10, .tmp 11]),
 Dd 9 (.mv (.tmp 12)),
 Dd 13 (.extract (.tmp 9) 0),
 Dd 14 (.extract (.tmp 9) 1),
 Dd 15 (.extract (.tmp 9) 2),
 Dd 6 (.mv (.tmp 13)),
 Dd 7 (.mv (.tmp 14)),
 Dd 8 (.mv (.tmp 15))]
def F.G0.r2 : List DOp := [
 Dd 16 (.mv (.tmp 7)),
 Dd 17 (.mv (.tmp 8)),
 Dd 4 (.mv (.tmp 16)),
 Dd 5 (.mv (.tmp 17))]
def F.G0.c : ACode := .seq (.region F.G0.r0) (.seq (.region F.G0.r1) (.seq (.region F.G0.r2) (.ret)))
def F.G0 : AFunc := ⟨F.G0.c, [.tmp 4, .tmp 5]⟩
def F.G1.r0 : List DOp := [
 Dd 3 (.box (.tmp 0)),
 Dd 6 (.alloc [.int .i64 0, .int .i64 0, .slice none 0 0]),
 Dd 7 (.mv (.const (.int .i64 0)))]
def F.G1.r1 : List DOp := [
 Dd 12 (.load 4 true (.tmp 3)),
 Dd 13 (.mv (.tmp 1)),
 Dd 14 (.call I.E8 [.tmp 12, .tmp 13]),
 Dd 11 (.mv (.tmp 14)),
 Dd 15 (.extract (.tmp 11) 0),
 Dd 16 (.extract (.tmp 11) 1),
 Dd 17 (.extract (.tmp 11) 2),
 Dd 8 (.mv (.tmp 15)),
 Dd 9 (.mv (.tmp 16)),
 Dd 10 (.mv (.tmp 17))]
def F.G1.r2 : List DOp := [
 Dd 18 (.mv (.tmp 10)),
 Dd 19 (.bin .neq (.tmp 18) (.const (.int .i64 0)))]
def F.G1.r3 : List DOp := [
 Dd 20 (.build [.int .i64 0, .int .i64 0, .slice none 0 0] []),
 Dd 21 (.mv (.tmp 10)),
 De (.store 3 (.tmp 6) (.tmp 20)),
 Dd 7 (.mv (.tmp 21))]
def F.G1.r4 : List DOp := [
 Dd 22 (.mv (.tmp 2)),
 Dd 23 (.bin .lss (.tmp 22) (.const (.int .i64 0))),
 Dd 24 (.mv (.tmp 23)),
 ⟨some 25, .mv (.tmp 2), (some (24, false)), []⟩,
 ⟨some 26, .mv (.tmp 9), (some (24, false)), []⟩,
 ⟨some 27, .bin .geq (.tmp 25) (.tmp 26), (some (24, false)), []⟩,
 Dd 28 (.pick (.tmp 24) (.const (.bool true)) (.tmp 27))]
def F.G1.r5 : List DOp := [
 Dd 29 (.build [.int .i64 0, .int .i64 0, .slice none 0 0] []),
 De (.store 3 (.tmp 6) (.tmp 29)),
 Dd 7 (.mv (.const (.int .i64 5)))]
def F.G1.r6 : List DOp := [
 Dd 30 (.mv (.tmp 8)),
 Dd 31 (.faddr 2 (.tmp 3)),
 Dd 32 (.load 1 false (.tmp 31)),
 Dd 33 (.build [.bool false, .int .i64 0] [(1, 1, .tmp 32)]),
 Dd 34 (.mv (.tmp 1)),
 Dd 35 (.mv (.tmp 2)),
 Dd 36 (.call I.C8 [.tmp 30, .tmp 33, .tmp 34, .tmp 35]),
 De (.store 3 (.tmp 6) (.tmp 36)),
 Dd 7 (.mv (.const (.int .i64 0)))]
def F.G1.c : ACode := .seq (.region F.G1.r0) (.seq (.region F.G1.r1) (.seq (.seq (.region F.G1.r2) (.cond (.tmp 19) (.seq (.region F.G1.r3) (.ret)) (.skip))) (.seq (.seq (.region F.G1.r4) (.cond (.tmp 28) (.seq (.region F.G1.r5) (.ret)) (.skip))) (.seq (.region F.G1.r6) (.ret)))))
def F.G1 : AFunc := ⟨F.G1.c, [.cell 6 3 true, .tmp 7]⟩
def F.E8.r0 : List DOp := [
 Dd 2 (.box (.tmp 0)),
 Dd 4 (.mv (.const (.pointer none))),
 Dd 5 (.mv (.const (.int .i64 0))),
 Dd 6 (.mv (.const (.int .i64 0)))]
def F.E8.r1 : List DOp := [
 Dd 11 (.load 4 true (.tmp 2)),
 Dd 12 (.mv (.tmp 1)),
 Dd 13 (.call I.C6 [.tmp 11, .tmp 12]),
 Dd 10 (.mv (.tmp 13)),
 Dd 14 (.extract (.tmp 10) 0),
 Dd 15 (.extract (.tmp 10) 1),
 Dd 7 (.mv (.tmp 14)),
 Dd 8 (.mv (.tmp 15))]
def F.E8.r2 : List DOp := [
 Dd 16 (.mv (.tmp 8)),
 Dd 17 (.bin .neq (.tmp 16) (.const (.int .i64 0)))]
def F.E8.r3 : List DOp := [
 Dd 18 (.mv (.tmp 8)),
 Dd 4 (.mv (.const (.pointer none))),
 Dd 5 (.mv (.const (.int .i64 0))),
 Dd 6 (.mv (.tmp 18))]
def F.E8.r4 : List DOp := [
 Dd 19 (.mv (.tmp 7)),
 Dd 20 (.faddr 2 (.tmp 2)),
 Dd 21 (.load 1 false (.tmp 20)),
 Dd 22 (.idxs 1 (.tmp 19) (.tmp 21)),
 Dd 23 (.load 1 false (.tmp 22)),
 Dd 24 (.mv (.tmp 1)),
 Dd 25 (.idxs 1 (.tmp 23) (.tmp 24)),
 Dd 26 (.load 1 false (.tmp 25)),
 Dd 9 (.mv (.tmp 26))]
def F.E8.r5 : List DOp := [
 Dd 27 (.mv (.tmp 9))]
def F.E8.r7 : List DOp := [
 Dd 35 (.bin .eql (.tmp 27) (.const (.int .i64 (-1)))),
 Dd 34 (.mv (.tmp 35))]
def F.E8.r8 : List DOp := [
 Dd 4 (.mv (.const (.pointer none))),
 Dd 5 (.mv (.const (.int .i64 0))),
 Dd 6 (.mv (.const (.int .i64 9)))]
def F.E8.r9 : List DOp := [
 Dd 37 (.bin .eql (.tmp 27) (.const (.int .i64 1000000000))),
 Dd 36 (.mv (.tmp 37))]
def F.E8.r10 : List DOp := [
 Dd 4 (.mv (.const (.pointer none))),
 Dd 5 (.mv (.const (.int .i64 0))),
 Dd 6 (.mv (.const (.int .i64 2)))]
def F.E8.r6 : List DOp := [
 Dd 28 (.load 4 true (.tmp 2)),
 Dd 29 (.mv (.tmp 7)),
 Dd 30 (.mkmap),
 Dd 31 (.build [.int .i64 0, .int .i64 0, .int .i64 0, .slice none 0 0, .slice none 0 0, .map none] [(0, 4, .tmp 28), (4, 1, .tmp 29), (5, 1, .tmp 30)]),
 Dd 32 (.box (.tmp 31)),
 Dd 33 (.mv (.tmp 9)),
 Dd 4 (.mv (.tmp 32)),
 Dd 5 (.mv (.tmp 33)),
 Dd 6 (.mv (.const (.int .i64 0)))]
def F.E8.c : ACode := .seq (.region F.E8.r0) (.seq (.region F.E8.r1) (.seq (.seq (.region F.E8.r2) (.cond (.tmp 17) (.seq (.region F.E8.r3) (.ret)) (.skip))) (.seq (.region F.E8.r4) (.seq (.region F.E8.r5) (.block 0 (.seq (.region F.E8.r7) (.cond (.tmp 34) (.seq (.region F.E8.r8) (.ret)) (.seq (.region F.E8.r9) (.cond (.tmp 36) (.seq (.region F.E8.r10) (.ret)) (.seq (.region F.E8.r6) (.ret)))))))))))
def F.E8 : AFunc := ⟨F.E8.c, [.tmp 4, .tmp 5, .tmp 6]⟩
def F.C8.r0 : List DOp := [
 Dd 5 (.box (.tmp 1)),
 Dd 8 (.alloc [.int .i64 0, .int .i64 0, .slice none 0 0])]
def F.C8.r1 : List DOp := [
 Dd 12 (.faddr 0 (.tmp 5)),
 Dd 13 (.load 1 false (.tmp 12))]
def F.C8.r2 : List DOp := [
 Dd 14 (.faddr 1 (.tmp 5)),
 Dd 15 (.load 1 false (.tmp 14)),
 Dd 16 (.build [.int .i64 0, .int .i64 0, .slice none 0 0] [(0, 1, .const (.int .i64 (-1))), (1, 1, .tmp 15)]),
 De (.store 3 (.tmp 8) (.tmp 16))]
def F.C8.r3 : List DOp := [
 Dd 17 (.mv (.tmp 0)),
 Dd 18 (.nilchk (.tmp 17)),
 Dd 19 (.faddr 0 (.tmp 18)),
 Dd 20 (.faddr 3 (.tmp 19)),
 Dd 21 (.load 1 false (.tmp 20)),
 Dd 22 (.len (.tmp 21)),
 Dd 23 (.mv (.const (.int .i64 0)))]
def F.C8.r4 : List DOp := [
 Dd 24 (.bin .lss (.tmp 23) (.tmp 22))]
def F.C8.r5 : List DOp := [
 Dd 25 (.mv (.tmp 23)),
 Dd 26 (.idxs 2 (.tmp 21) (.tmp 23)),
 Dd 27 (.load 2 true (.tmp 26)),
 Dd 10 (.alloc [.int .i64 0, .slice none 0 0]),
 Dd 9 (.mv (.tmp 25)),
 De (.store 2 (.tmp 10) (.tmp 27))]
def F.C8.r6 : List DOp := [
 Dd 28 (.faddr 0 (.tmp 10)),
 Dd 29 (.load 1 false (.tmp 28)),
 Dd 30 (.faddr 1 (.tmp 5)),
 Dd 31 (.load 1 false (.tmp 30)),
 Dd 32 (.bin .neq (.tmp 29) (.tmp 31))]
def F.C8.r7 : List DOp := [
 Dd 33 (.mv (.tmp 0)),
 Dd 34 (.mv (.tmp 9)),
 Dd 35 (.mv (.tmp 2)),
 Dd 36 (.call I.C0 [.tmp 33, .tmp 34, .const (.int .i64 0), .tmp 35]),
 Dd 11 (.mv (.tmp 36))]
def F.C8.r8 : List DOp := [
 Dd 37 (.mv (.tmp 3)),
 Dd 38 (.mv (.tmp 11)),
 Dd 39 (.bin .lss (.tmp 37) (.tmp 38))]
def F.C8.r9 : List DOp := [
 Dd 40 (.mv (.tmp 9)),
 Dd 41 (.mv (.tmp 0)),
 Dd 42 (.mv (.tmp 9)),
 Dd 43 (.mv (.tmp 2)),
 Dd 44 (.mv (.tmp 3)),
 Dd 45 (.call I.D4 [.tmp 41, .tmp 42, .const (.int .i64 0), .tmp 43, .tmp 44]),
 Dd 46 (.build [.int .i64 0, .int .i64 0, .slice none 0 0] [(0, 1, .tmp 40), (2, 1, .tmp 45)]),
 De (.store 3 (.tmp 8) (.tmp 46))]
def F.C8.r10 : List DOp := [
 Dd 47 (.mv (.tmp 3)),
 Dd 48 (.mv (.tmp 11)),
 Dd 49 (.bin .sub (.tmp 47) (.tmp 48)),
 Dd 3 (.mv (.tmp 49))]
def F.C8.r11 : List DOp := [
 Dd 50 (.bin .add (.tmp 23) (.const (.int .i64 1))),
 Dd 23 (.mv (.tmp 50))]
def F.C8.L0 : ACode := .seq (.region F.C8.r4) (.seq (.cond (.tmp 24) (.skip) (.exit 0)) (.seq (.block 1 (.seq (.region F.C8.r5) (.seq (.seq (.region F.C8.r6) (.cond (.tmp 32) (.exit 1) (.skip))) (.seq (.region F.C8.r7) (.seq (.seq (.region F.C8.r8) (.cond (.tmp 39) (.seq (.region F.C8.r9) (.ret)) (.skip))) (.region F.C8.r10)))))) (.region F.C8.r11)))
def F.C8.r12 : List DOp := [
 Dd 51 (.build [.int .i64 0, .int .i64 0, .slice none 0 0] []),
 De (.store 3 (.tmp 8) (.tmp 51))]
def F.C8.c : ACode := .seq (.region F.C8.r0) (.seq (.seq (.region F.C8.r1) (.cond (.tmp 13) (.seq (.region F.C8.r2) (.ret)) (.skip))) (.seq (.seq (.region F.C8.r3) (.block 0 (.loop F.C8.L0))) (.seq (.region F.C8.r12) (.ret))))
def F.C8 : AFunc := ⟨F.C8.c, [.cell 8 3 true]⟩
def F.C0.r0 : List DOp := [
 Dd 8 (.mv (.const (.int .i64 0)))]
def F.C0.r1 : List DOp := [
 Dd 15 (.mv (.tmp 0)),
 Dd 16 (.nilchk (.tmp 15)),
 Dd 17 (.faddr 0 (.tmp 16)),
 Dd 18 (.faddr 3 (.tmp 17)),
 Dd 19 (.load 1 false (.tmp 18)),
 Dd 20 (.mv (.tmp 1)),
 Dd 21 (.idxs 2 (.tmp 19) (.tmp 20)),
 Dd 22 (.faddr 1 (.tmp 21)),
 Dd 23 (.load 1 false (.tmp 22)),
 Dd 9 (.mv (.tmp 23))]
def F.C0.r2 : List DOp := [
 Dd 24 (.mv (.tmp 2)),
 Dd 25 (.mv (.tmp 9)),
 Dd 26 (.len (.tmp 25)),
 Dd 27 (.bin .eql (.tmp 24) (.tmp 26))]
def F.C0.r3 : List DOp := [
 Dd 28 (.mv (.tmp 3)),
 Dd 29 (.bin .eql (.tmp 28) (.const (.int .i64 0)))]
def F.C0.r4 : List DOp := [
 Dd 8 (.mv (.const (.int .i64 1)))]
def F.C0.r5 : List DOp := [
 Dd 8 (.mv (.const (.int .i64 0)))]
def F.C0.r6 : List DOp := [
 Dd 30 (.mv (.tmp 1)),
 Dd 31 (.mv (.tmp 2)),
 Dd 32 (.mv (.tmp 3)),
 Dd 33 (.build [.int .i64 0, .int .i64 0, .int .i64 0] [(0, 1, .tmp 30), (1, 1, .tmp 31), (2, 1, .tmp 32)]),
 Dd 10 (.alloc [.int .i64 0, .int .i64 0, .int .i64 0]),
 De (.store 3 (.tmp 10) (.tmp 33))]
def F.C0.r7 : List DOp := [
 Dd 35 (.mv (.tmp 0)),
 Dd 36 (.nilchk (.tmp 35)),
 Dd 37 (.faddr 5 (.tmp 36)),
 Dd 38 (.load 1 false (.tmp 37)),
 Dd 39 (.load 3 true (.tmp 10)),
 Dd 40 (.mlook (.ints 3) (.int .i64 0) true (.tmp 38) (.tmp 39)),
 Dd 34 (.mv (.tmp 40)),
 Dd 41 (.extract (.tmp 34) 0),
 Dd 42 (.extract (.tmp 34) 1),
 Dd 11 (.mv (.tmp 41)),
 Dd 12 (.mv (.tmp 42))]
def F.C0.r8 : List DOp := [
 Dd 43 (.mv (.tmp 12))]
def F.C0.r9 : List DOp := [
 Dd 44 (.mv (.tmp 11)),
 Dd 8 (.mv (.tmp 44))]
def F.C0.r10 : List DOp := [
 Dd 13 (.mv (.const (.int .i64 0)))]
def F.C0.r11 : List DOp := [
 Dd 45 (.mv (.tmp 3)),
 Dd 46 (.bin .add (.tmp 45) (.const (.int .i64 1))),
 Dd 47 (.mv (.const (.int .i64 0)))]
def F.C0.r12 : List DOp := [
 Dd 48 (.bin .lss (.tmp 47) (.tmp 46))]
def F.C0.r13 : List DOp := [
 Dd 49 (.mv (.tmp 47)),
 Dd 14 (.mv (.tmp 49))]
def F.C0.r14 : List DOp := [
 Dd 50 (.mv (.tmp 13)),
 Dd 51 (.mv (.tmp 0)),
 Dd 52 (.mv (.tmp 1)),
 Dd 53 (.mv (.tmp 2)),
 Dd 54 (.mv (.tmp 14)),
 Dd 55 (.mv (.tmp 3)),
 Dd 56 (.call I.E1 [.tmp 51, .tmp 52, .tmp 53, .tmp 54, .tmp 55]),
 Dd 57 (.bin .add (.tmp 50) (.tmp 56)),
 Dd 13 (.mv (.tmp 57))]
def F.C0.r15 : List DOp := [
 Dd 58 (.bin .add (.tmp 47) (.const (.int .i64 1))),
 Dd 47 (.mv (.tmp 58))]
def F.C0.L0 : ACode := .seq (.region F.C0.r12) (.seq (.cond (.tmp 48) (.skip) (.exit 0)) (.seq (.block 1 (.seq (.region F.C0.r13) (.region F.C0.r14))) (.region F.C0.r15)))
def F.C0.r16 : List DOp := [
 Dd 59 (.mv (.tmp 0)),
 Dd 60 (.nilchk (.tmp 59)),
 Dd 61 (.faddr 5 (.tmp 60)),
 Dd 62 (.load 1 false (.tmp 61)),
 Dd 63 (.load 3 true (.tmp 10)),
 Dd 64 (.mv (.tmp 13)),
 De (.mset (.ints 3) (.tmp 62) (.tmp 63) (.tmp 64))]
def F.C0.r17 : List DOp := [
 Dd 65 (.mv (.tmp 13)),
 Dd 8 (.mv (.tmp 65))]
def F.C0.c : ACode := .seq (.region F.C0.r0) (.seq (.region F.C0.r1) (.seq (.seq (.region F.C0.r2) (.cond (.tmp 27) (.seq (.seq (.region F.C0.r3) (.cond (.tmp 29) (.seq (.region F.C0.r4) (.ret)) (.skip))) (.seq (.region F.C0.r5) (.ret))) (.skip))) (.seq (.region F.C0.r6) (.seq (.seq (.draw F.C0.r7 []) (.seq (.region F.C0.r8) (.cond (.tmp 43) (.seq (.region F.C0.r9) (.ret)) (.skip)))) (.seq (.region F.C0.r10) (.seq (.seq (.region F.C0.r11) (.block 0 (.loop F.C0.L0))) (.seq (.draw F.C0.r16 []) (.seq (.region F.C0.r17) (.ret)))))))))
def F.C0 : AFunc := ⟨F.C0.c, [.tmp 8]⟩
def F.D4.r0 : List DOp := [
 Dd 10 (.mv (.const (.slice none 0 0)))]
def F.D4.r1 : List DOp := [
 Dd 14 (.mv (.tmp 0)),
 Dd 15 (.nilchk (.tmp 14)),
 Dd 16 (.faddr 0 (.tmp 15)),
 Dd 17 (.faddr 3 (.tmp 16)),
 Dd 18 (.load 1 false (.tmp 17)),
 Dd 19 (.mv (.tmp 1)),
 Dd 20 (.idxs 2 (.tmp 18) (.tmp 19)),
 Dd 21 (.faddr 1 (.tmp 20)),
 Dd 22 (.load 1 false (.tmp 21)),
 Dd 11 (.mv (.tmp 22))]
def F.D4.r2 : List DOp := [
 Dd 23 (.mv (.tmp 2)),
 Dd 24 (.mv (.tmp 11)),
 Dd 25 (.len (.tmp 24)),
 Dd 26 (.bin .eql (.tmp 23) (.tmp 25))]
def F.D4.r3 : List DOp := [
 Dd 10 (.mv (.const (.slice none 0 0)))]
def F.D4.r4 : List DOp := [
 Dd 12 (.mv (.const (.int .i64 0)))]
def F.D4.r5 : List DOp := [
 Dd 27 (.mv (.tmp 12)),
 Dd 28 (.mv (.tmp 3)),
 Dd 29 (.bin .lss (.tmp 27) (.tmp 28)),
 Dd 30 (.mv (.tmp 29)),
 ⟨some 31, .mv (.tmp 4), (some (30, true)), []⟩,
 ⟨some 32, .mv (.tmp 0), (some (30, true)), []⟩,
 ⟨some 33, .mv (.tmp 1), (some (30, true)), []⟩,
 ⟨some 34, .mv (.tmp 2), (some (30, true)), []⟩,
 ⟨some 35, .mv (.tmp 12), (some (30, true)), []⟩,
 ⟨some 36, .mv (.tmp 3), (some (30, true)), []⟩,
 ⟨some 37, .call I.E1 [.tmp 32, .tmp 33, .tmp 34, .tmp 35, .tmp 36], (some (30, true)), []⟩,
 ⟨some 38, .bin .geq (.tmp 31) (.tmp 37), (some (30, true)), []⟩,
 Dd 39 (.pick (.tmp 30) (.tmp 38) (.const (.bool false)))]
def F.D4.r7 : List DOp := [
 Dd 42 (.mv (.tmp 4)),
 Dd 43 (.mv (.tmp 0)),
 Dd 44 (.mv (.tmp 1)),
 Dd 45 (.mv (.tmp 2)),
 Dd 46 (.mv (.tmp 12)),
 Dd 47 (.mv (.tmp 3)),
 Dd 48 (.call I.E1 [.tmp 43, .tmp 44, .tmp 45, .tmp 46, .tmp 47]),
 Dd 49 (.bin .sub (.tmp 42) (.tmp 48)),
 Dd 4 (.mv (.tmp 49))]
def F.D4.r6 : List DOp := [
 Dd 40 (.mv (.tmp 12)),
 Dd 41 (.bin .add (.tmp 40) (.const (.int .i64 1))),
 Dd 12 (.mv (.tmp 41))]
def F.D4.L0 : ACode := .seq (.seq (.region F.D4.r5) (.cond (.tmp 39) (.skip) (.exit 0))) (.seq (.block 1 (.region F.D4.r7)) (.region F.D4.r6))
def F.D4.r8 : List DOp := [
 Dd 50 (.mv (.tmp 0)),
 Dd 51 (.mv (.tmp 1)),
 Dd 52 (.mv (.tmp 2)),
 Dd 53 (.bin .add (.tmp 52) (.const (.int .i64 1))),
 Dd 54 (.mv (.tmp 3)),
 Dd 55 (.mv (.tmp 12)),
 Dd 56 (.bin .sub (.tmp 54) (.tmp 55)),
 Dd 57 (.call I.C0 [.tmp 50, .tmp 51, .tmp 53, .tmp 56]),
 Dd 13 (.mv (.tmp 57))]
def F.D4.r9 : List DOp := [
 Dd 58 (.mv (.tmp 0)),
 Dd 59 (.mv (.tmp 11)),
 Dd 60 (.mv (.tmp 2)),
 Dd 61 (.idxs 2 (.tmp 59) (.tmp 60)),
 Dd 62 (.load 2 true (.tmp 61)),
 Dd 63 (.mv (.tmp 12)),
 Dd 64 (.mv (.tmp 4)),
 Dd 65 (.mv (.tmp 13)),
 Dd 66 (.bin .quo (.tmp 64) (.tmp 65)),
 Dd 67 (.call I.C8 [.tmp 58, .tmp 62, .tmp 63, .tmp 66]),
 Dd 69 (.mv (.tmp 0)),
 Dd 70 (.mv (.tmp 1)),
 Dd 71 (.mv (.tmp 2)),
 Dd 72 (.bin .add (.tmp 71) (.const (.int .i64 1))),
 Dd 73 (.mv (.tmp 3)),
 Dd 74 (.mv (.tmp 12)),
 Dd 75 (.bin .sub (.tmp 73) (.tmp 74)),
 Dd 76 (.mv (.tmp 4)),
 Dd 77 (.mv (.tmp 13)),
 Dd 78 (.bin .rem (.tmp 76) (.tmp 77)),
 Dd 79 (.call I.D4 [.tmp 69, .tmp 70, .tmp 72, .tmp 75, .tmp 78]),
 Dd 68 (.bslice 3 1 [.int .i64 0, .int .i64 0, .slice none 0 0] [(0, 3, .tmp 67)]),
 Dd 80 (.append 3 40 (.tmp 68) (.tmp 79)),
 Dd 10 (.mv (.tmp 80))]
def F.D4.c : ACode := .seq (.region F.D4.r0) (.seq (.region F.D4.r1) (.seq (.seq (.region F.D4.r2) (.cond (.tmp 26) (.seq (.region F.D4.r3) (.ret)) (.skip))) (.seq (.region F.D4.r4) (.seq (.block 0 (.loop F.D4.L0)) (.seq (.region F.D4.r8) (.seq (.draw F.D4.r9 []) (.ret)))))))
def F.D4 : AFunc := ⟨F.D4.c, [.tmp 10]⟩
def F.E1.r0 : List DOp := [
 Dd 10 (.mv (.const (.int .i64 0)))]
def F.E1.r1 : List DOp := [
 Dd 12 (.mv (.tmp 0)),
 Dd 13 (.mv (.tmp 0)),
 Dd 14 (.nilchk (.tmp 13)),
 Dd 15 (.faddr 0 (.tmp 14)),
 Dd 16 (.faddr 3 (.tmp 15)),
 Dd 17 (.load 1 false (.tmp 16)),
 Dd 18 (.mv (.tmp 1)),
 Dd 19 (.idxs 2 (.tmp 17) (.tmp 18)),
 Dd 20 (.faddr 1 (.tmp 19)),
 Dd 21 (.load 1 false (.tmp 20)),
 Dd 22 (.mv (.tmp 2)),
 Dd 23 (.idxs 2 (.tmp 21) (.tmp 22)),
 Dd 24 (.load 2 true (.tmp 23)),
 Dd 25 (.mv (.tmp 3)),
 Dd 26 (.call I.F0 [.tmp 12, .tmp 24, .tmp 25]),
 Dd 11 (.mv (.tmp 26))]
def F.E1.r2 : List DOp := [
 Dd 27 (.mv (.tmp 11)),
 Dd 28 (.bin .eql (.tmp 27) (.const (.int .i64 0)))]
def F.E1.r3 : List DOp := [
 Dd 10 (.mv (.const (.int .i64 0)))]
def F.E1.r4 : List DOp := [
 Dd 29 (.mv (.tmp 11)),
 Dd 30 (.mv (.tmp 0)),
 Dd 31 (.mv (.tmp 1)),
 Dd 32 (.mv (.tmp 2)),
 Dd 33 (.bin .add (.tmp 32) (.const (.int .i64 1))),
 Dd 34 (.mv (.tmp 4)),
 Dd 35 (.mv (.tmp 3)),
 Dd 36 (.bin .sub (.tmp 34) (.tmp 35)),
 Dd 37 (.call I.C0 [.tmp 30, .tmp 31, .tmp 33, .tmp 36]),
 Dd 38 (.bin .mul (.tmp 29) (.tmp 37)),
 Dd 10 (.mv (.tmp 38))]
def F.E1.c : ACode := .seq (.region F.E1.r0) (.seq (.region F.E1.r1) (.seq (.seq (.region F.E1.r2) (.cond (.tmp 28) (.seq (.region F.E1.r3) (.ret)) (.skip))) (.seq (.region F.E1.r4) (.ret))))
def F.E1 : AFunc := ⟨F.E1.c, [.tmp 10]⟩
def F.F0.r0 : List DOp := [
 Dd 4 (.box (.tmp 1)),
 Dd 6 (.mv (.const (.int .i64 0)))]
def F.F0.r1 : List DOp := [
 Dd 7 (.faddr 0 (.tmp 4)),
 Dd 8 (.load 1 false (.tmp 7)),
 Dd 9 (.un .not (.tmp 8))]
def F.F0.r2 : List DOp := [
 Dd 10 (.mv (.tmp 0)),
 Dd 11 (.nilchk (.tmp 10)),
 Dd 12 (.faddr 4 (.tmp 11)),
 Dd 13 (.load 1 false (.tmp 12)),
 Dd 14 (.faddr 1 (.tmp 4)),
 Dd 15 (.load 1 false (.tmp 14)),
 Dd 16 (.idxs 1 (.tmp 13) (.tmp 15)),
 Dd 17 (.load 1 false (.tmp 16)),
 Dd 18 (.mv (.tmp 2)),
 Dd 19 (.idxs 1 (.tmp 17) (.tmp 18)),
 Dd 20 (.load 1 false (.tmp 19)),
 Dd 6 (.mv (.tmp 20))]
def F.F0.r3 : List DOp := [
 Dd 21 (.mv (.tmp 2)),
 Dd 22 (.bin .eql (.tmp 21) (.const (.int .i64 1)))]
def F.F0.r4 : List DOp := [
 Dd 6 (.mv (.const (.int .i64 1)))]
def F.F0.r5 : List DOp := [
 Dd 6 (.mv (.const (.int .i64 0)))]
def F.F0.c : ACode := .seq (.region F.F0.r0) (.seq (.seq (.region F.F0.r1) (.cond (.tmp 9) (.seq (.draw F.F0.r2 []) (.ret)) (.skip))) (.seq (.seq (.region F.F0.r3) (.cond (.tmp 22) (.seq (.region F.F0.r4) (.ret)) (.skip))) (.seq (.region F.F0.r5) (.ret))))
def F.F0 : AFunc := ⟨F.F0.c, [.tmp 6]⟩
end Go.Proofs.Ytmeigkelacoibaa
