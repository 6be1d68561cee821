import Derived.Test.YtmfkjilndpchbaaI
namespace Go.Proofs.Ytmfkjilndpchbaa
open Go Go.Ab
def F.C4.r0:=[
 Dd 4 (.mv (.const (.bool false)))]
def F.C4.r1:=[
 Dm 5 0,
 Dm 6 1,
 Dd 7 (.call I.E6 [5,6]),
 Dd 8 (.bin .geq 7 (Ci 0)),
 Dm 4 8]
def F.C4.c:ACode:=sr F.C4.r0 (sr F.C4.r1 (.ret))
def F.C4:AFunc:=⟨F.C4.c,[.tmp 4]⟩
def F.G1.r0:=[
 Dd 4 (.mv (Ci 0))]
def F.G1.r1:=[
 Dm 6 0,
 Dd 7 (.len 6),
 Dd 8 (.mv (Ci 0))]
def F.G1.r2:=[
 Dd 9 (.bin .lss 8 7)]
def F.G1.r3:=[
 Dm 10 8,
 Dm 5 10]
def F.G1.r4:=[
 Dm 11 1,
 Dm 12 0,
 Dm 13 5,
 Dd 14 (.idxs 1 12 13),
 Dd 15 (.load 1 false 14),
 Dd 16 (.callv 11 [15])]
def F.G1.r5:=[
 Dm 17 5,
 Dm 4 17]
def F.G1.r6:=[
 Dd 18 (.bin .add 8 (Ci 1)),
 Dm 8 18]
def F.G1.L0:ACode:=sr F.G1.r2 (.seq (.cond 9 (.skip) (.exit 0)) (.seq (.block 1 (sr F.G1.r3 (sr F.G1.r4 (.cond 16 (sr F.G1.r5 (.ret)) (.skip))))) (.region F.G1.r6)))
def F.G1.r7:=[
 Dd 4 (.mv (Ci (-1)))]
def F.G1.c:ACode:=sr F.G1.r0 (.seq (sr F.G1.r1 (.block 0 (.loop F.G1.L0))) (sr F.G1.r7 (.ret)))
def F.G1:AFunc:=⟨F.G1.c,[.tmp 4]⟩
def F.E0.r0:=[
 Dd 4 (.mv (.const (.bool false)))]
def F.E0.r1:=[
 Dm 6 0,
 Dd 7 (.len 6),
 Dm 8 1,
 Dd 9 (.len 8),
 Dd 10 (.bin .neq 7 9)]
def F.E0.r2:=[
 Dd 4 (.mv (.const (.bool false)))]
def F.E0.r3:=[
 Dm 11 0,
 Dd 12 (.len 11),
 Dd 13 (.mv (Ci 0))]
def F.E0.r4:=[
 Dd 14 (.bin .lss 13 12)]
def F.E0.r5:=[
 Dm 15 13,
 Dm 5 15]
def F.E0.r6:=[
 Dm 16 0,
 Dm 17 5,
 Dd 18 (.idxs 1 16 17),
 Dd 19 (.load 1 false 18),
 Dm 20 1,
 Dm 21 5,
 Dd 22 (.idxs 1 20 21),
 Dd 23 (.load 1 false 22),
 Dd 24 (.bin .neq 19 23)]
def F.E0.r7:=[
 Dd 4 (.mv (.const (.bool false)))]
def F.E0.r8:=[
 Dd 25 (.bin .add 13 (Ci 1)),
 Dm 13 25]
def F.E0.L0:ACode:=sr F.E0.r4 (.seq (.cond 14 (.skip) (.exit 0)) (.seq (.block 1 (sr F.E0.r5 (.seq (.draw F.E0.r6 []) (.cond 24 (sr F.E0.r7 (.ret)) (.skip))))) (.region F.E0.r8)))
def F.E0.r9:=[
 Dd 4 (.mv (.const (.bool true)))]
def F.E0.c:ACode:=sr F.E0.r0 (.seq (sr F.E0.r1 (.cond 10 (sr F.E0.r2 (.ret)) (.skip))) (.seq (sr F.E0.r3 (.block 0 (.loop F.E0.L0))) (sr F.E0.r9 (.ret))))
def F.E0:AFunc:=⟨F.E0.c,[.tmp 4]⟩
def F.D0.r0:=[
 Dd 4 (.mv (.const (.slice none 0 0)))]
def F.D0.r1:=[
 Dm 9 1,
 Dd 10 (.bin .lss 9 (Ci 0))]
def F.D0.r2:=[
 Dd 11 (.iface 9 (.const (.string ⟨#[99,97,110,110,111,116,32,98,101,32,110,101,103,97,116,105,118,101]⟩))),
 De (.bad)]
def F.D0.r3:=[
 Dm 13 0,
 Dd 14 (.len 13),
 Dd 15 (.conv .u64 14),
 Dm 16 1,
 Dd 17 (.conv .u64 16),
 Dd 18 (.call I.J6 [15,17]),
 Dm 12 18,
 Dd 19 (.extract 12 0),
 Dd 20 (.extract 12 1),
 Dm 5 19,
 Dm 6 20]
def F.D0.r4:=[
 Dm 21 5,
 Dd 22 (.bin .gtr 21 (.const (.int .u64 0))),
 Dm 23 22,
 ⟨some 24,.mv 6,(some (23,false)),[]⟩,
 ⟨some 25,.bin .gtr 24 (.const (.int .u64 9223372036854775807)),(some (23,false)),[]⟩,
 Dd 26 (.pick 23 (.const (.bool true)) 25)]
def F.D0.r5:=[
 Dd 27 (.iface 9 (.const (.string ⟨#[116,104,101,32,114,101,115,117,108,116,32,111,102,32,40,108,101,110,40,120,41,32,42,32,99,111,117,110,116,41,32,111,118,101,114,102,108,111,119,115]⟩))),
 De (.bad)]
def F.D0.r6:=[
 Dm 28 6,
 Dd 29 (.conv .i64 28),
 Dd 30 (.mkslice 1 8 [.int .i64 0] 29 29),
 Dm 7 30]
def F.D0.r7:=[
 Dm 31 7,
 Dm 32 0,
 Dd 33 (.copy 1 31 32),
 Dm 8 33]
def F.D0.r8:=[
 Dm 34 8,
 Dm 35 7,
 Dd 36 (.len 35),
 Dd 37 (.bin .lss 34 36)]
def F.D0.r9:=[
 Dm 38 8,
 Dm 39 7,
 Dm 40 8,
 Dd 41 (.slice 1 39 (some 40) none),
 Dm 42 7,
 Dm 43 8,
 Dd 44 (.slice 1 42 none (some 43)),
 Dd 45 (.copy 1 41 44),
 Dd 46 (.bin .add 38 45),
 Dm 8 46]
def F.D0.L0:ACode:=.seq (sr F.D0.r8 (.cond 37 (.skip) (.exit 0))) (.block 1 (.draw F.D0.r9 []))
def F.D0.r10:=[
 Dm 47 7,
 Dm 4 47]
def F.D0.c:ACode:=sr F.D0.r0 (.seq (sr F.D0.r1 (.cond 10 (.region F.D0.r2) (.skip))) (sr F.D0.r3 (.seq (sr F.D0.r4 (.cond 26 (.region F.D0.r5) (.skip))) (sr F.D0.r6 (sr F.D0.r7 (.seq (.block 0 (.loop F.D0.L0)) (sr F.D0.r10 (.ret))))))))
def F.D0:AFunc:=⟨F.D0.c,[.tmp 4]⟩
def F.E6.r0:=[
 Dd 4 (.mv (Ci 0))]
def F.E6.r1:=[
 Dm 6 0,
 Dd 7 (.len 6),
 Dd 8 (.mv (Ci 0))]
def F.E6.r2:=[
 Dd 9 (.bin .lss 8 7)]
def F.E6.r3:=[
 Dm 10 8,
 Dm 5 10]
def F.E6.r4:=[
 Dm 11 1,
 Dm 12 0,
 Dm 13 5,
 Dd 14 (.idxs 1 12 13),
 Dd 15 (.load 1 false 14),
 Dd 16 (.bin .eql 11 15)]
def F.E6.r5:=[
 Dm 17 5,
 Dm 4 17]
def F.E6.r6:=[
 Dd 18 (.bin .add 8 (Ci 1)),
 Dm 8 18]
def F.E6.L0:ACode:=sr F.E6.r2 (.seq (.cond 9 (.skip) (.exit 0)) (.seq (.block 1 (sr F.E6.r3 (sr F.E6.r4 (.cond 16 (sr F.E6.r5 (.ret)) (.skip))))) (.region F.E6.r6)))
def F.E6.r7:=[
 Dd 4 (.mv (Ci (-1)))]
def F.E6.c:ACode:=sr F.E6.r0 (.seq (sr F.E6.r1 (.block 0 (.loop F.E6.L0))) (sr F.E6.r7 (.ret)))
def F.E6:AFunc:=⟨F.E6.c,[.tmp 4]⟩
def F.F4.r0:=[
 Dd 2 (.mv (.const (.slice none 0 0)))]
def F.F4.r1:=[
 Dm 3 0,
 Dd 4 (.eq false .slice 3 (.const (.slice none 0 0)))]
def F.F4.r2:=[
 Dd 2 (.mv (.const (.slice none 0 0)))]
def F.F4.r3:=[
 Dd 5 (.bslice 1 0 [] []),
 Dm 6 0,
 Dd 7 (.append 1 8 5 6),
 Dm 2 7]
def F.F4.c:ACode:=sr F.F4.r0 (.seq (sr F.F4.r1 (.cond 4 (sr F.F4.r2 (.ret)) (.skip))) (sr F.F4.r3 (.ret)))
def F.F4:AFunc:=⟨F.F4.c,[.tmp 2]⟩
def F.G9.r0:=[
 Dm 3 0,
 Dd 4 (.len 3),
 Dm 2 4]
def F.G9.r1:=[
 Dm 5 0,
 Dm 6 2,
 Dm 7 2,
 Dd 8 (.conv .u64 7),
 Dd 9 (.call I.J2 [8]),
 Dd 10 (.call I.B1 [5,.const (.int .i64 0),6,9])]
def F.G9.c:ACode:=sr F.G9.r0 (.region F.G9.r1)
def F.G9:AFunc:=⟨F.G9.c,[]⟩
def F.D5.r0:=[
 Dd 3 (.box 1),
 Dd 4 (.mv (.const (.bool false)))]
def F.D5.r1:=[
 Dm 5 0,
 Dd 6 (.load 2 true 3),
 Dd 7 (.call I.C3 [5,6]),
 Dd 8 (.bin .geq 7 (Ci 0)),
 Dm 4 8]
def F.D5.c:ACode:=sr F.D5.r0 (sr F.D5.r1 (.ret))
def F.D5:AFunc:=⟨F.D5.c,[.tmp 4]⟩
def F.B3.r0:=[
 Dd 6 (.mv (Ci 0))]
def F.B3.r1:=[
 Dm 11 0,
 Dd 12 (.len 11),
 Dd 13 (.mv (Ci 0))]
def F.B3.r2:=[
 Dd 14 (.bin .lss 13 12)]
def F.B3.r3:=[
 Dm 15 13,
 Dd 16 (.idxs 2 11 13),
 Dd 17 (.load 2 true 16),
 Dd 8 (.alloc [.bool false,.int .i64 0]),
 Dm 7 15,
 De (.store 2 8 17)]
def F.B3.r4:=[
 Dm 18 7,
 Dm 19 1,
 Dd 20 (.len 19),
 Dd 21 (.bin .geq 18 20)]
def F.B3.r5:=[
 Dd 6 (.mv (Ci 1))]
def F.B3.r6:=[
 Dm 22 1,
 Dm 23 7,
 Dd 24 (.idxs 2 22 23),
 Dd 25 (.load 2 true 24),
 Dd 9 (.alloc [.bool false,.int .i64 0]),
 De (.store 2 9 25)]
def F.B3.r7:=[
 Dm 26 2,
 Dd 27 (.load 2 true 8),
 Dd 28 (.load 2 true 9),
 Dd 29 (.callv 26 [27,28]),
 Dm 10 29]
def F.B3.r8:=[
 Dm 30 10,
 Dd 31 (.bin .neq 30 (Ci 0))]
def F.B3.r9:=[
 Dm 32 10,
 Dm 6 32]
def F.B3.r10:=[
 Dd 33 (.bin .add 13 (Ci 1)),
 Dm 13 33]
def F.B3.L0:ACode:=sr F.B3.r2 (.seq (.cond 14 (.skip) (.exit 0)) (.seq (.block 1 (sr F.B3.r3 (.seq (sr F.B3.r4 (.cond 21 (sr F.B3.r5 (.ret)) (.skip))) (sr F.B3.r6 (sr F.B3.r7 (sr F.B3.r8 (.cond 31 (sr F.B3.r9 (.ret)) (.skip)))))))) (.region F.B3.r10)))
def F.B3.r11:=[
 Dm 34 0,
 Dd 35 (.len 34),
 Dm 36 1,
 Dd 37 (.len 36),
 Dd 38 (.bin .lss 35 37)]
def F.B3.r12:=[
 Dd 6 (.mv (Ci (-1)))]
def F.B3.r13:=[
 Dd 6 (.mv (Ci 0))]
def F.B3.c:ACode:=sr F.B3.r0 (.seq (sr F.B3.r1 (.block 0 (.loop F.B3.L0))) (.seq (sr F.B3.r11 (.cond 38 (sr F.B3.r12 (.ret)) (.skip))) (sr F.B3.r13 (.ret))))
def F.B3:AFunc:=⟨F.B3.c,[.tmp 6]⟩
def F.B1.r0:=[
 Dd 8 (.mv (.const (.bool true)))]
def F.B1.r1:=[
 Dd 9 (.mv (.const (.bool true)))]
def F.B1.r2:=[
 Dm 19 2,
 Dm 20 1,
 Dd 21 (.bin .sub 19 20),
 Dm 10 21]
def F.B1.r3:=[
 Dm 22 10,
 Dd 23 (.bin .leq 22 (Ci 12))]
def F.B1.r4:=[
 Dm 24 0,
 Dm 25 1,
 Dm 26 2,
 Dd 27 (.call I.C1 [24,25,26])]
def F.B1.r5:=[
 Dm 28 3,
 Dd 29 (.bin .eql 28 (Ci 0))]
def F.B1.r6:=[
 Dm 30 0,
 Dm 31 1,
 Dm 32 2,
 Dd 33 (.call I.C2 [30,31,32])]
def F.B1.r7:=[
 Dm 34 8,
 Dd 35 (.un .not 34)]
def F.B1.r8:=[
 Dm 36 0,
 Dm 37 1,
 Dm 38 2,
 Dd 39 (.call I.C0 [36,37,38])]
def F.B1.r9:=[
 Dm 40 3,
 Dd 41 (.bin .sub 40 (Ci 1)),
 Dm 3 41]
def F.B1.r10:=[
 Dm 43 0,
 Dm 44 1,
 Dm 45 2,
 Dd 46 (.call I.B7 [43,44,45]),
 Dm 42 46,
 Dd 47 (.extract 42 0),
 Dd 48 (.extract 42 1),
 Dm 11 47,
 Dm 12 48]
def F.B1.r11:=[
 Dm 49 12,
 Dd 50 (.bin .eql 49 (Ci 2))]
def F.B1.r12:=[
 Dm 51 0,
 Dm 52 1,
 Dm 53 2,
 Dd 54 (.call I.C8 [51,52,53])]
def F.B1.r13:=[
 Dm 55 2,
 Dd 56 (.bin .sub 55 (Ci 1)),
 Dm 57 11,
 Dm 58 1,
 Dd 59 (.bin .sub 57 58),
 Dd 60 (.bin .sub 56 59),
 Dm 11 60]
def F.B1.r14:=[
 Dd 12 (.mv (Ci 1))]
def F.B1.r15:=[
 Dm 61 8,
 Dm 62 61,
 ⟨some 63,.mv 9,(some (62,true)),[]⟩,
 Dd 64 (.pick 62 63 (.const (.bool false))),
 Dm 65 64,
 ⟨some 66,.mv 12,(some (65,true)),[]⟩,
 ⟨some 67,.bin .eql 66 (Ci 1),(some (65,true)),[]⟩,
 Dd 68 (.pick 65 67 (.const (.bool false)))]
def F.B1.r16:=[
 Dm 69 0,
 Dm 70 1,
 Dm 71 2,
 Dd 72 (.call I.A7 [69,70,71])]
def F.B1.r17:=[
 Dm 73 1,
 Dd 74 (.bin .gtr 73 (Ci 0)),
 Dm 75 74,
 ⟨some 76,.mv 0,(some (75,true)),[]⟩,
 ⟨some 77,.mv 1,(some (75,true)),[]⟩,
 ⟨some 78,.bin .sub 77 (Ci 1),(some (75,true)),[]⟩,
 ⟨some 79,.idxs 1 76 78,(some (75,true)),[]⟩,
 ⟨some 80,.load 1 false 79,(some (75,true)),[]⟩,
 ⟨some 81,.mv 0,(some (75,true)),[]⟩,
 ⟨some 82,.mv 11,(some (75,true)),[]⟩,
 ⟨some 83,.idxs 1 81 82,(some (75,true)),[]⟩,
 ⟨some 84,.load 1 false 83,(some (75,true)),[]⟩,
 ⟨some 85,.call I.D4 [80,84],(some (75,true)),[]⟩,
 ⟨some 86,.un .not 85,(some (75,true)),[]⟩,
 Dd 87 (.pick 75 86 (.const (.bool false)))]
def F.B1.r18:=[
 Dm 88 0,
 Dm 89 1,
 Dm 90 2,
 Dm 91 11,
 Dd 92 (.call I.B2 [88,89,90,91]),
 Dm 13 92]
def F.B1.r19:=[
 Dm 93 13,
 Dm 1 93]
def F.B1.r20:=[
 Dm 95 0,
 Dm 96 1,
 Dm 97 2,
 Dm 98 11,
 Dd 99 (.call I.B0 [95,96,97,98]),
 Dm 94 99,
 Dd 100 (.extract 94 0),
 Dd 101 (.extract 94 1),
 Dm 14 100,
 Dm 15 101]
def F.B1.r21:=[
 Dm 102 15,
 Dm 9 102]
def F.B1.r22:=[
 Dm 103 14,
 Dm 104 1,
 Dd 105 (.bin .sub 103 104),
 Dm 106 2,
 Dm 107 14,
 Dd 108 (.bin .sub 106 107),
 Dm 16 105,
 Dm 17 108]
def F.B1.r23:=[
 Dm 109 10,
 Dd 110 (.bin .quo 109 (Ci 8)),
 Dm 18 110]
def F.B1.r24:=[
 Dm 111 16,
 Dm 112 17,
 Dd 113 (.bin .lss 111 112)]
def F.B1.r25:=[
 Dm 114 16,
 Dm 115 18,
 Dd 116 (.bin .geq 114 115),
 Dm 8 116]
def F.B1.r26:=[
 Dm 117 0,
 Dm 118 1,
 Dm 119 14,
 Dm 120 3,
 Dd 121 (.call I.B1 [117,118,119,120])]
def F.B1.r27:=[
 Dm 122 14,
 Dd 123 (.bin .add 122 (Ci 1)),
 Dm 1 123]
def F.B1.r28:=[
 Dm 124 17,
 Dm 125 18,
 Dd 126 (.bin .geq 124 125),
 Dm 8 126]
def F.B1.r29:=[
 Dm 127 0,
 Dm 128 14,
 Dd 129 (.bin .add 128 (Ci 1)),
 Dm 130 2,
 Dm 131 3,
 Dd 132 (.call I.B1 [127,129,130,131])]
def F.B1.r30:=[
 Dm 133 14,
 Dm 2 133]
def F.B1.L0:ACode:=.block 1 (sr F.B1.r2 (.seq (sr F.B1.r3 (.cond 23 (sr F.B1.r4 (.ret)) (.skip))) (.seq (sr F.B1.r5 (.cond 29 (sr F.B1.r6 (.ret)) (.skip))) (.seq (sr F.B1.r7 (.cond 35 (sr F.B1.r8 (.region F.B1.r9)) (.skip))) (sr F.B1.r10 (.seq (sr F.B1.r11 (.cond 50 (sr F.B1.r12 (sr F.B1.r13 (.region F.B1.r14))) (.skip))) (.seq (sr F.B1.r15 (.cond 68 (sr F.B1.r16 (.cond 72 (.ret) (.skip))) (.skip))) (.seq (.seq (.draw F.B1.r17 []) (.cond 87 (sr F.B1.r18 (sr F.B1.r19 (.exit 1))) (.skip))) (sr F.B1.r20 (sr F.B1.r21 (sr F.B1.r22 (sr F.B1.r23 (sr F.B1.r24 (.cond 113 (sr F.B1.r25 (sr F.B1.r26 (.region F.B1.r27))) (sr F.B1.r28 (sr F.B1.r29 (.region F.B1.r30)))))))))))))))))
def F.B1.c:ACode:=sr F.B1.r0 (sr F.B1.r1 (.block 0 (.loop F.B1.L0)))
def F.B1:AFunc:=⟨F.B1.c,[]⟩
def F.C3.r0:=[
 Dd 3 (.box 1),
 Dd 4 (.mv (Ci 0))]
def F.C3.r1:=[
 Dm 6 0,
 Dd 7 (.len 6),
 Dd 8 (.mv (Ci 0))]
def F.C3.r2:=[
 Dd 9 (.bin .lss 8 7)]
def F.C3.r3:=[
 Dm 10 8,
 Dm 5 10]
def F.C3.r4:=[
 Dd 11 (.load 2 true 3),
 Dm 12 0,
 Dm 13 5,
 Dd 14 (.idxs 2 12 13),
 Dd 15 (.load 2 true 14),
 Dd 16 (.eq false (.struct [(0,.int),(1,.int)]) 11 15)]
def F.C3.r5:=[
 Dm 17 5,
 Dm 4 17]
def F.C3.r6:=[
 Dd 18 (.bin .add 8 (Ci 1)),
 Dm 8 18]
def F.C3.L0:ACode:=sr F.C3.r2 (.seq (.cond 9 (.skip) (.exit 0)) (.seq (.block 1 (sr F.C3.r3 (.seq (.draw F.C3.r4 []) (.cond 16 (sr F.C3.r5 (.ret)) (.skip))))) (.region F.C3.r6)))
def F.C3.r7:=[
 Dd 4 (.mv (Ci (-1)))]
def F.C3.c:ACode:=sr F.C3.r0 (.seq (sr F.C3.r1 (.block 0 (.loop F.C3.L0))) (sr F.C3.r7 (.ret)))
def F.C3:AFunc:=⟨F.C3.c,[.tmp 4]⟩
def F.C1.r0:=[
 Dm 8 1,
 Dd 9 (.bin .add 8 (Ci 1)),
 Dm 6 9]
def F.C1.r1:=[
 Dm 10 6,
 Dm 11 2,
 Dd 12 (.bin .lss 10 11)]
def F.C1.r3:=[
 Dm 15 6,
 Dm 7 15]
def F.C1.r4:=[
 Dm 16 7,
 Dm 17 1,
 Dd 18 (.bin .gtr 16 17),
 Dm 19 18,
 ⟨some 20,.mv 0,(some (19,true)),[]⟩,
 ⟨some 21,.mv 7,(some (19,true)),[]⟩,
 ⟨some 22,.idxs 1 20 21,(some (19,true)),[]⟩,
 ⟨some 23,.load 1 false 22,(some (19,true)),[]⟩,
 ⟨some 24,.mv 0,(some (19,true)),[]⟩,
 ⟨some 25,.mv 7,(some (19,true)),[]⟩,
 ⟨some 26,.bin .sub 25 (Ci 1),(some (19,true)),[]⟩,
 ⟨some 27,.idxs 1 24 26,(some (19,true)),[]⟩,
 ⟨some 28,.load 1 false 27,(some (19,true)),[]⟩,
 ⟨some 29,.call I.D4 [23,28],(some (19,true)),[]⟩,
 Dd 30 (.pick 19 29 (.const (.bool false)))]
def F.C1.r6:=[
 Dm 33 0,
 Dm 34 7,
 Dm 35 0,
 Dm 36 7,
 Dd 37 (.bin .sub 36 (Ci 1)),
 Dm 38 0,
 Dm 39 7,
 Dd 40 (.bin .sub 39 (Ci 1)),
 Dd 41 (.idxs 1 38 40),
 Dd 42 (.load 1 false 41),
 Dm 43 0,
 Dm 44 7,
 Dd 45 (.idxs 1 43 44),
 Dd 46 (.load 1 false 45),
 Dd 47 (.idxs 1 33 34),
 De (.store 1 47 42),
 Dd 48 (.idxs 1 35 37),
 De (.store 1 48 46)]
def F.C1.r5:=[
 Dm 31 7,
 Dd 32 (.bin .sub 31 (Ci 1)),
 Dm 7 32]
def F.C1.L1:ACode:=.seq (.seq (.draw F.C1.r4 []) (.cond 30 (.skip) (.exit 2))) (.seq (.block 3 (.draw F.C1.r6 [])) (.region F.C1.r5))
def F.C1.r2:=[
 Dm 13 6,
 Dd 14 (.bin .add 13 (Ci 1)),
 Dm 6 14]
def F.C1.L0:ACode:=.seq (sr F.C1.r1 (.cond 12 (.skip) (.exit 0))) (.seq (.block 1 (sr F.C1.r3 (.block 2 (.loop F.C1.L1)))) (.region F.C1.r2))
def F.C1.c:ACode:=sr F.C1.r0 (.block 0 (.loop F.C1.L0))
def F.C1:AFunc:=⟨F.C1.c,[]⟩
def F.C2.r0:=[
 Dm 11 1,
 Dm 6 11]
def F.C2.r1:=[
 Dd 7 (.mv (Ci 0))]
def F.C2.r2:=[
 Dm 12 2,
 Dm 13 1,
 Dd 14 (.bin .sub 12 13),
 Dm 8 14]
def F.C2.r3:=[
 Dm 15 8,
 Dd 16 (.bin .sub 15 (Ci 1)),
 Dd 17 (.bin .quo 16 (Ci 2)),
 Dm 9 17]
def F.C2.r4:=[
 Dm 18 9,
 Dd 19 (.bin .geq 18 (Ci 0))]
def F.C2.r6:=[
 Dm 22 0,
 Dm 23 9,
 Dm 24 8,
 Dm 25 6,
 Dd 26 (.call I.C6 [22,23,24,25])]
def F.C2.r5:=[
 Dm 20 9,
 Dd 21 (.bin .sub 20 (Ci 1)),
 Dm 9 21]
def F.C2.L0:ACode:=.seq (sr F.C2.r4 (.cond 19 (.skip) (.exit 0))) (.seq (.block 1 (.region F.C2.r6)) (.region F.C2.r5))
def F.C2.r7:=[
 Dm 27 8,
 Dd 28 (.bin .sub 27 (Ci 1)),
 Dm 10 28]
def F.C2.r8:=[
 Dm 29 10,
 Dd 30 (.bin .geq 29 (Ci 0))]
def F.C2.r10:=[
 Dm 33 0,
 Dm 34 6,
 Dm 35 0,
 Dm 36 6,
 Dm 37 10,
 Dd 38 (.bin .add 36 37),
 Dm 39 0,
 Dm 40 6,
 Dm 41 10,
 Dd 42 (.bin .add 40 41),
 Dd 43 (.idxs 1 39 42),
 Dd 44 (.load 1 false 43),
 Dm 45 0,
 Dm 46 6,
 Dd 47 (.idxs 1 45 46),
 Dd 48 (.load 1 false 47),
 Dd 49 (.idxs 1 33 34),
 De (.store 1 49 44),
 Dd 50 (.idxs 1 35 38),
 De (.store 1 50 48)]
def F.C2.r11:=[
 Dm 51 0,
 Dm 52 7,
 Dm 53 10,
 Dm 54 6,
 Dd 55 (.call I.C6 [51,52,53,54])]
def F.C2.r9:=[
 Dm 31 10,
 Dd 32 (.bin .sub 31 (Ci 1)),
 Dm 10 32]
def F.C2.L1:ACode:=.seq (sr F.C2.r8 (.cond 30 (.skip) (.exit 2))) (.seq (.block 3 (.seq (.draw F.C2.r10 []) (.region F.C2.r11))) (.region F.C2.r9))
def F.C2.c:ACode:=sr F.C2.r0 (sr F.C2.r1 (sr F.C2.r2 (.seq (sr F.C2.r3 (.block 0 (.loop F.C2.L0))) (sr F.C2.r7 (.block 2 (.loop F.C2.L1))))))
def F.C2:AFunc:=⟨F.C2.c,[]⟩
def F.C0.r0:=[
 Dm 11 2,
 Dm 12 1,
 Dd 13 (.bin .sub 11 12),
 Dm 6 13]
def F.C0.r1:=[
 Dm 14 6,
 Dd 15 (.bin .geq 14 (Ci 8))]
def F.C0.r2:=[
 Dm 16 6,
 Dd 17 (.conv .u64 16),
 Dd 7 (.alloc [.int .u64 0]),
 De (.store 1 7 17)]
def F.C0.r3:=[
 Dm 18 6,
 Dd 19 (.call I.G6 [18]),
 Dm 8 19]
def F.C0.r4:=[
 Dm 20 1,
 Dm 21 6,
 Dd 22 (.bin .quo 21 (Ci 4)),
 Dd 23 (.bin .mul 22 (Ci 2)),
 Dd 24 (.bin .add 20 23),
 Dd 25 (.bin .sub 24 (Ci 1)),
 Dm 9 25]
def F.C0.r5:=[
 Dm 26 9,
 Dm 27 1,
 Dm 28 6,
 Dd 29 (.bin .quo 28 (Ci 4)),
 Dd 30 (.bin .mul 29 (Ci 2)),
 Dd 31 (.bin .add 27 30),
 Dd 32 (.bin .add 31 (Ci 1)),
 Dd 33 (.bin .leq 26 32)]
def F.C0.r7:=[
 Dd 36 (.call I.G2 [7]),
 Dm 37 8,
 Dd 38 (.bin .sub 37 (.const (.int .u64 1))),
 Dd 39 (.bin .and 36 38),
 Dd 40 (.conv .i64 39),
 Dm 10 40]
def F.C0.r8:=[
 Dm 41 10,
 Dm 42 6,
 Dd 43 (.bin .geq 41 42)]
def F.C0.r9:=[
 Dm 44 10,
 Dm 45 6,
 Dd 46 (.bin .sub 44 45),
 Dm 10 46]
def F.C0.r10:=[
 Dm 47 0,
 Dm 48 9,
 Dm 49 0,
 Dm 50 1,
 Dm 51 10,
 Dd 52 (.bin .add 50 51),
 Dm 53 0,
 Dm 54 1,
 Dm 55 10,
 Dd 56 (.bin .add 54 55),
 Dd 57 (.idxs 1 53 56),
 Dd 58 (.load 1 false 57),
 Dm 59 0,
 Dm 60 9,
 Dd 61 (.idxs 1 59 60),
 Dd 62 (.load 1 false 61),
 Dd 63 (.idxs 1 47 48),
 De (.store 1 63 58),
 Dd 64 (.idxs 1 49 52),
 De (.store 1 64 62)]
def F.C0.r6:=[
 Dm 34 9,
 Dd 35 (.bin .add 34 (Ci 1)),
 Dm 9 35]
def F.C0.L0:ACode:=.seq (sr F.C0.r5 (.cond 33 (.skip) (.exit 0))) (.seq (.block 1 (sr F.C0.r7 (.seq (sr F.C0.r8 (.cond 43 (.region F.C0.r9) (.skip))) (.draw F.C0.r10 [])))) (.region F.C0.r6))
def F.C0.c:ACode:=sr F.C0.r0 (sr F.C0.r1 (.cond 15 (sr F.C0.r2 (sr F.C0.r3 (sr F.C0.r4 (.block 0 (.loop F.C0.L0))))) (.skip)))
def F.C0:AFunc:=⟨F.C0.c,[]⟩
def F.B7.r0:=[
 Dd 6 (.mv (Ci 0)),
 Dd 7 (.mv (Ci 0))]
def F.B7.r1:=[
 Dm 13 2,
 Dm 14 1,
 Dd 15 (.bin .sub 13 14),
 Dm 8 15]
def F.B7.r2:=[
 Dd 9 (.alloc [.int .i64 0])]
def F.B7.r3:=[
 Dm 16 1,
 Dm 17 8,
 Dd 18 (.bin .quo 17 (Ci 4)),
 Dd 19 (.bin .mul 18 (Ci 1)),
 Dd 20 (.bin .add 16 19),
 Dm 10 20]
def F.B7.r4:=[
 Dm 21 1,
 Dm 22 8,
 Dd 23 (.bin .quo 22 (Ci 4)),
 Dd 24 (.bin .mul 23 (Ci 2)),
 Dd 25 (.bin .add 21 24),
 Dm 11 25]
def F.B7.r5:=[
 Dm 26 1,
 Dm 27 8,
 Dd 28 (.bin .quo 27 (Ci 4)),
 Dd 29 (.bin .mul 28 (Ci 3)),
 Dd 30 (.bin .add 26 29),
 Dm 12 30]
def F.B7.r6:=[
 Dm 31 8,
 Dd 32 (.bin .geq 31 (Ci 8))]
def F.B7.r7:=[
 Dm 33 8,
 Dd 34 (.bin .geq 33 (Ci 50))]
def F.B7.r8:=[
 Dm 35 0,
 Dm 36 10,
 Dd 37 (.call I.D1 [35,36,9]),
 Dm 10 37]
def F.B7.r9:=[
 Dm 38 0,
 Dm 39 11,
 Dd 40 (.call I.D1 [38,39,9]),
 Dm 11 40]
def F.B7.r10:=[
 Dm 41 0,
 Dm 42 12,
 Dd 43 (.call I.D1 [41,42,9]),
 Dm 12 43]
def F.B7.r11:=[
 Dm 44 0,
 Dm 45 10,
 Dm 46 11,
 Dm 47 12,
 Dd 48 (.call I.E3 [44,45,46,47,9]),
 Dm 11 48]
def F.B7.r12:=[
 Dd 49 (.load 1 false 9)]
def F.B7.r14:=[
 Dd 52 (.bin .eql 49 (Ci 0)),
 Dm 51 52]
def F.B7.r15:=[
 Dm 53 11,
 Dm 6 53,
 Dd 7 (.mv (Ci 1))]
def F.B7.r16:=[
 Dd 55 (.bin .eql 49 (Ci 12)),
 Dm 54 55]
def F.B7.r17:=[
 Dm 56 11,
 Dm 6 56,
 Dd 7 (.mv (Ci 2))]
def F.B7.r13:=[
 Dm 50 11,
 Dm 6 50,
 Dd 7 (.mv (Ci 0))]
def F.B7.c:ACode:=sr F.B7.r0 (sr F.B7.r1 (sr F.B7.r2 (sr F.B7.r3 (sr F.B7.r4 (sr F.B7.r5 (.seq (sr F.B7.r6 (.cond 32 (.seq (sr F.B7.r7 (.cond 34 (sr F.B7.r8 (sr F.B7.r9 (.region F.B7.r10))) (.skip))) (.region F.B7.r11)) (.skip))) (sr F.B7.r12 (.block 0 (sr F.B7.r14 (.cond 51 (sr F.B7.r15 (.ret)) (sr F.B7.r16 (.cond 54 (sr F.B7.r17 (.ret)) (sr F.B7.r13 (.ret))))))))))))))
def F.B7:AFunc:=⟨F.B7.c,[.tmp 6,.tmp 7]⟩
def F.C8.r0:=[
 Dm 8 1,
 Dm 6 8]
def F.C8.r1:=[
 Dm 9 2,
 Dd 10 (.bin .sub 9 (Ci 1)),
 Dm 7 10]
def F.C8.r2:=[
 Dm 11 6,
 Dm 12 7,
 Dd 13 (.bin .lss 11 12)]
def F.C8.r3:=[
 Dm 14 0,
 Dm 15 6,
 Dm 16 0,
 Dm 17 7,
 Dm 18 0,
 Dm 19 7,
 Dd 20 (.idxs 1 18 19),
 Dd 21 (.load 1 false 20),
 Dm 22 0,
 Dm 23 6,
 Dd 24 (.idxs 1 22 23),
 Dd 25 (.load 1 false 24),
 Dd 26 (.idxs 1 14 15),
 De (.store 1 26 21),
 Dd 27 (.idxs 1 16 17),
 De (.store 1 27 25)]
def F.C8.r4:=[
 Dm 28 6,
 Dd 29 (.bin .add 28 (Ci 1)),
 Dm 6 29]
def F.C8.r5:=[
 Dm 30 7,
 Dd 31 (.bin .sub 30 (Ci 1)),
 Dm 7 31]
def F.C8.L0:ACode:=.seq (sr F.C8.r2 (.cond 13 (.skip) (.exit 0))) (.block 1 (.seq (.draw F.C8.r3 []) (sr F.C8.r4 (.region F.C8.r5))))
def F.C8.c:ACode:=sr F.C8.r0 (sr F.C8.r1 (.block 0 (.loop F.C8.L0)))
def F.C8:AFunc:=⟨F.C8.c,[]⟩
def F.A7.r0:=[
 Dd 6 (.mv (.const (.bool false)))]
def F.A7.r1:=[
 Dm 11 1,
 Dd 12 (.bin .add 11 (Ci 1)),
 Dm 7 12]
def F.A7.r2:=[
 Dd 8 (.mv (Ci 0))]
def F.A7.r3:=[
 Dm 13 8,
 Dd 14 (.bin .lss 13 (Ci 5))]
def F.A7.r5:=[
 Dm 17 7,
 Dm 18 2,
 Dd 19 (.bin .lss 17 18),
 Dm 20 19,
 ⟨some 21,.mv 0,(some (20,true)),[]⟩,
 ⟨some 22,.mv 7,(some (20,true)),[]⟩,
 ⟨some 23,.idxs 1 21 22,(some (20,true)),[]⟩,
 ⟨some 24,.load 1 false 23,(some (20,true)),[]⟩,
 ⟨some 25,.mv 0,(some (20,true)),[]⟩,
 ⟨some 26,.mv 7,(some (20,true)),[]⟩,
 ⟨some 27,.bin .sub 26 (Ci 1),(some (20,true)),[]⟩,
 ⟨some 28,.idxs 1 25 27,(some (20,true)),[]⟩,
 ⟨some 29,.load 1 false 28,(some (20,true)),[]⟩,
 ⟨some 30,.call I.D4 [24,29],(some (20,true)),[]⟩,
 ⟨some 31,.un .not 30,(some (20,true)),[]⟩,
 Dd 32 (.pick 20 31 (.const (.bool false)))]
def F.A7.r6:=[
 Dm 33 7,
 Dd 34 (.bin .add 33 (Ci 1)),
 Dm 7 34]
def F.A7.L1:ACode:=.seq (.seq (.draw F.A7.r5 []) (.cond 32 (.skip) (.exit 2))) (.block 3 (.region F.A7.r6))
def F.A7.r7:=[
 Dm 35 7,
 Dm 36 2,
 Dd 37 (.bin .eql 35 36)]
def F.A7.r8:=[
 Dd 6 (.mv (.const (.bool true)))]
def F.A7.r9:=[
 Dm 38 2,
 Dm 39 1,
 Dd 40 (.bin .sub 38 39),
 Dd 41 (.bin .lss 40 (Ci 50))]
def F.A7.r10:=[
 Dd 6 (.mv (.const (.bool false)))]
def F.A7.r11:=[
 Dm 42 0,
 Dm 43 7,
 Dm 44 0,
 Dm 45 7,
 Dd 46 (.bin .sub 45 (Ci 1)),
 Dm 47 0,
 Dm 48 7,
 Dd 49 (.bin .sub 48 (Ci 1)),
 Dd 50 (.idxs 1 47 49),
 Dd 51 (.load 1 false 50),
 Dm 52 0,
 Dm 53 7,
 Dd 54 (.idxs 1 52 53),
 Dd 55 (.load 1 false 54),
 Dd 56 (.idxs 1 42 43),
 De (.store 1 56 51),
 Dd 57 (.idxs 1 44 46),
 De (.store 1 57 55)]
def F.A7.r12:=[
 Dm 58 7,
 Dm 59 1,
 Dd 60 (.bin .sub 58 59),
 Dd 61 (.bin .geq 60 (Ci 2))]
def F.A7.r13:=[
 Dm 62 7,
 Dd 63 (.bin .sub 62 (Ci 1)),
 Dm 9 63]
def F.A7.r14:=[
 Dm 64 9,
 Dd 65 (.bin .geq 64 (Ci 1))]
def F.A7.r16:=[
 Dm 68 0,
 Dm 69 9,
 Dd 70 (.idxs 1 68 69),
 Dd 71 (.load 1 false 70),
 Dm 72 0,
 Dm 73 9,
 Dd 74 (.bin .sub 73 (Ci 1)),
 Dd 75 (.idxs 1 72 74),
 Dd 76 (.load 1 false 75),
 Dd 77 (.call I.D4 [71,76]),
 Dd 78 (.un .not 77)]
def F.A7.r17:=[
 Dm 79 0,
 Dm 80 9,
 Dm 81 0,
 Dm 82 9,
 Dd 83 (.bin .sub 82 (Ci 1)),
 Dm 84 0,
 Dm 85 9,
 Dd 86 (.bin .sub 85 (Ci 1)),
 Dd 87 (.idxs 1 84 86),
 Dd 88 (.load 1 false 87),
 Dm 89 0,
 Dm 90 9,
 Dd 91 (.idxs 1 89 90),
 Dd 92 (.load 1 false 91),
 Dd 93 (.idxs 1 79 80),
 De (.store 1 93 88),
 Dd 94 (.idxs 1 81 83),
 De (.store 1 94 92)]
def F.A7.r15:=[
 Dm 66 9,
 Dd 67 (.bin .sub 66 (Ci 1)),
 Dm 9 67]
def F.A7.L2:ACode:=.seq (sr F.A7.r14 (.cond 65 (.skip) (.exit 4))) (.seq (.block 5 (.seq (.seq (.draw F.A7.r16 []) (.cond 78 (.exit 4) (.skip))) (.draw F.A7.r17 []))) (.region F.A7.r15))
def F.A7.r18:=[
 Dm 95 2,
 Dm 96 7,
 Dd 97 (.bin .sub 95 96),
 Dd 98 (.bin .geq 97 (Ci 2))]
def F.A7.r19:=[
 Dm 99 7,
 Dd 100 (.bin .add 99 (Ci 1)),
 Dm 10 100]
def F.A7.r20:=[
 Dm 101 10,
 Dm 102 2,
 Dd 103 (.bin .lss 101 102)]
def F.A7.r22:=[
 Dm 106 0,
 Dm 107 10,
 Dd 108 (.idxs 1 106 107),
 Dd 109 (.load 1 false 108),
 Dm 110 0,
 Dm 111 10,
 Dd 112 (.bin .sub 111 (Ci 1)),
 Dd 113 (.idxs 1 110 112),
 Dd 114 (.load 1 false 113),
 Dd 115 (.call I.D4 [109,114]),
 Dd 116 (.un .not 115)]
def F.A7.r23:=[
 Dm 117 0,
 Dm 118 10,
 Dm 119 0,
 Dm 120 10,
 Dd 121 (.bin .sub 120 (Ci 1)),
 Dm 122 0,
 Dm 123 10,
 Dd 124 (.bin .sub 123 (Ci 1)),
 Dd 125 (.idxs 1 122 124),
 Dd 126 (.load 1 false 125),
 Dm 127 0,
 Dm 128 10,
 Dd 129 (.idxs 1 127 128),
 Dd 130 (.load 1 false 129),
 Dd 131 (.idxs 1 117 118),
 De (.store 1 131 126),
 Dd 132 (.idxs 1 119 121),
 De (.store 1 132 130)]
def F.A7.r21:=[
 Dm 104 10,
 Dd 105 (.bin .add 104 (Ci 1)),
 Dm 10 105]
def F.A7.L3:ACode:=.seq (sr F.A7.r20 (.cond 103 (.skip) (.exit 6))) (.seq (.block 7 (.seq (.seq (.draw F.A7.r22 []) (.cond 116 (.exit 6) (.skip))) (.draw F.A7.r23 []))) (.region F.A7.r21))
def F.A7.r4:=[
 Dm 15 8,
 Dd 16 (.bin .add 15 (Ci 1)),
 Dm 8 16]
def F.A7.L0:ACode:=.seq (sr F.A7.r3 (.cond 14 (.skip) (.exit 0))) (.seq (.block 1 (.seq (.block 2 (.loop F.A7.L1)) (.seq (sr F.A7.r7 (.cond 37 (sr F.A7.r8 (.ret)) (.skip))) (.seq (sr F.A7.r9 (.cond 41 (sr F.A7.r10 (.ret)) (.skip))) (.seq (.draw F.A7.r11 []) (.seq (sr F.A7.r12 (.cond 61 (sr F.A7.r13 (.block 4 (.loop F.A7.L2))) (.skip))) (sr F.A7.r18 (.cond 98 (sr F.A7.r19 (.block 6 (.loop F.A7.L3))) (.skip))))))))) (.region F.A7.r4))
def F.A7.r24:=[
 Dd 6 (.mv (.const (.bool false)))]
def F.A7.c:ACode:=sr F.A7.r0 (sr F.A7.r1 (.seq (sr F.A7.r2 (.block 0 (.loop F.A7.L0))) (sr F.A7.r24 (.ret))))
def F.A7:AFunc:=⟨F.A7.c,[.tmp 6]⟩
def F.B2.r0:=[
 Dd 8 (.mv (Ci 0))]
def F.B2.r1:=[
 Dm 11 0,
 Dm 12 1,
 Dm 13 0,
 Dm 14 3,
 Dm 15 0,
 Dm 16 3,
 Dd 17 (.idxs 1 15 16),
 Dd 18 (.load 1 false 17),
 Dm 19 0,
 Dm 20 1,
 Dd 21 (.idxs 1 19 20),
 Dd 22 (.load 1 false 21),
 Dd 23 (.idxs 1 11 12),
 De (.store 1 23 18),
 Dd 24 (.idxs 1 13 14),
 De (.store 1 24 22)]
def F.B2.r2:=[
 Dm 25 1,
 Dd 26 (.bin .add 25 (Ci 1)),
 Dm 27 2,
 Dd 28 (.bin .sub 27 (Ci 1)),
 Dm 9 26,
 Dm 10 28]
def F.B2.r3:=[
 Dm 29 9,
 Dm 30 10,
 Dd 31 (.bin .leq 29 30),
 Dm 32 31,
 ⟨some 33,.mv 0,(some (32,true)),[]⟩,
 ⟨some 34,.mv 1,(some (32,true)),[]⟩,
 ⟨some 35,.idxs 1 33 34,(some (32,true)),[]⟩,
 ⟨some 36,.load 1 false 35,(some (32,true)),[]⟩,
 ⟨some 37,.mv 0,(some (32,true)),[]⟩,
 ⟨some 38,.mv 9,(some (32,true)),[]⟩,
 ⟨some 39,.idxs 1 37 38,(some (32,true)),[]⟩,
 ⟨some 40,.load 1 false 39,(some (32,true)),[]⟩,
 ⟨some 41,.call I.D4 [36,40],(some (32,true)),[]⟩,
 ⟨some 42,.un .not 41,(some (32,true)),[]⟩,
 Dd 43 (.pick 32 42 (.const (.bool false)))]
def F.B2.r4:=[
 Dm 44 9,
 Dd 45 (.bin .add 44 (Ci 1)),
 Dm 9 45]
def F.B2.L1:ACode:=.seq (.seq (.draw F.B2.r3 []) (.cond 43 (.skip) (.exit 2))) (.block 3 (.region F.B2.r4))
def F.B2.r5:=[
 Dm 46 9,
 Dm 47 10,
 Dd 48 (.bin .leq 46 47),
 Dm 49 48,
 ⟨some 50,.mv 0,(some (49,true)),[]⟩,
 ⟨some 51,.mv 1,(some (49,true)),[]⟩,
 ⟨some 52,.idxs 1 50 51,(some (49,true)),[]⟩,
 ⟨some 53,.load 1 false 52,(some (49,true)),[]⟩,
 ⟨some 54,.mv 0,(some (49,true)),[]⟩,
 ⟨some 55,.mv 10,(some (49,true)),[]⟩,
 ⟨some 56,.idxs 1 54 55,(some (49,true)),[]⟩,
 ⟨some 57,.load 1 false 56,(some (49,true)),[]⟩,
 ⟨some 58,.call I.D4 [53,57],(some (49,true)),[]⟩,
 Dd 59 (.pick 49 58 (.const (.bool false)))]
def F.B2.r6:=[
 Dm 60 10,
 Dd 61 (.bin .sub 60 (Ci 1)),
 Dm 10 61]
def F.B2.L2:ACode:=.seq (.seq (.draw F.B2.r5 []) (.cond 59 (.skip) (.exit 4))) (.block 5 (.region F.B2.r6))
def F.B2.r7:=[
 Dm 62 9,
 Dm 63 10,
 Dd 64 (.bin .gtr 62 63)]
def F.B2.r8:=[
 Dm 65 0,
 Dm 66 9,
 Dm 67 0,
 Dm 68 10,
 Dm 69 0,
 Dm 70 10,
 Dd 71 (.idxs 1 69 70),
 Dd 72 (.load 1 false 71),
 Dm 73 0,
 Dm 74 9,
 Dd 75 (.idxs 1 73 74),
 Dd 76 (.load 1 false 75),
 Dd 77 (.idxs 1 65 66),
 De (.store 1 77 72),
 Dd 78 (.idxs 1 67 68),
 De (.store 1 78 76)]
def F.B2.r9:=[
 Dm 79 9,
 Dd 80 (.bin .add 79 (Ci 1)),
 Dm 9 80]
def F.B2.r10:=[
 Dm 81 10,
 Dd 82 (.bin .sub 81 (Ci 1)),
 Dm 10 82]
def F.B2.L0:ACode:=.block 1 (.seq (.block 2 (.loop F.B2.L1)) (.seq (.block 4 (.loop F.B2.L2)) (.seq (sr F.B2.r7 (.cond 64 (.exit 0) (.skip))) (.seq (.draw F.B2.r8 []) (sr F.B2.r9 (.region F.B2.r10))))))
def F.B2.r11:=[
 Dm 83 9,
 Dm 8 83]
def F.B2.c:ACode:=sr F.B2.r0 (.seq (.draw F.B2.r1 []) (sr F.B2.r2 (.seq (.block 0 (.loop F.B2.L0)) (sr F.B2.r11 (.ret)))))
def F.B2:AFunc:=⟨F.B2.c,[.tmp 8]⟩
def F.B0.r0:=[
 Dd 8 (.mv (Ci 0)),
 Dd 9 (.mv (.const (.bool false)))]
def F.B0.r1:=[
 Dm 12 0,
 Dm 13 1,
 Dm 14 0,
 Dm 15 3,
 Dm 16 0,
 Dm 17 3,
 Dd 18 (.idxs 1 16 17),
 Dd 19 (.load 1 false 18),
 Dm 20 0,
 Dm 21 1,
 Dd 22 (.idxs 1 20 21),
 Dd 23 (.load 1 false 22),
 Dd 24 (.idxs 1 12 13),
 De (.store 1 24 19),
 Dd 25 (.idxs 1 14 15),
 De (.store 1 25 23)]
def F.B0.r2:=[
 Dm 26 1,
 Dd 27 (.bin .add 26 (Ci 1)),
 Dm 28 2,
 Dd 29 (.bin .sub 28 (Ci 1)),
 Dm 10 27,
 Dm 11 29]
def F.B0.r3:=[
 Dm 30 10,
 Dm 31 11,
 Dd 32 (.bin .leq 30 31),
 Dm 33 32,
 ⟨some 34,.mv 0,(some (33,true)),[]⟩,
 ⟨some 35,.mv 10,(some (33,true)),[]⟩,
 ⟨some 36,.idxs 1 34 35,(some (33,true)),[]⟩,
 ⟨some 37,.load 1 false 36,(some (33,true)),[]⟩,
 ⟨some 38,.mv 0,(some (33,true)),[]⟩,
 ⟨some 39,.mv 1,(some (33,true)),[]⟩,
 ⟨some 40,.idxs 1 38 39,(some (33,true)),[]⟩,
 ⟨some 41,.load 1 false 40,(some (33,true)),[]⟩,
 ⟨some 42,.call I.D4 [37,41],(some (33,true)),[]⟩,
 Dd 43 (.pick 33 42 (.const (.bool false)))]
def F.B0.r4:=[
 Dm 44 10,
 Dd 45 (.bin .add 44 (Ci 1)),
 Dm 10 45]
def F.B0.L0:ACode:=.seq (.seq (.draw F.B0.r3 []) (.cond 43 (.skip) (.exit 0))) (.block 1 (.region F.B0.r4))
def F.B0.r5:=[
 Dm 46 10,
 Dm 47 11,
 Dd 48 (.bin .leq 46 47),
 Dm 49 48,
 ⟨some 50,.mv 0,(some (49,true)),[]⟩,
 ⟨some 51,.mv 11,(some (49,true)),[]⟩,
 ⟨some 52,.idxs 1 50 51,(some (49,true)),[]⟩,
 ⟨some 53,.load 1 false 52,(some (49,true)),[]⟩,
 ⟨some 54,.mv 0,(some (49,true)),[]⟩,
 ⟨some 55,.mv 1,(some (49,true)),[]⟩,
 ⟨some 56,.idxs 1 54 55,(some (49,true)),[]⟩,
 ⟨some 57,.load 1 false 56,(some (49,true)),[]⟩,
 ⟨some 58,.call I.D4 [53,57],(some (49,true)),[]⟩,
 ⟨some 59,.un .not 58,(some (49,true)),[]⟩,
 Dd 60 (.pick 49 59 (.const (.bool false)))]
def F.B0.r6:=[
 Dm 61 11,
 Dd 62 (.bin .sub 61 (Ci 1)),
 Dm 11 62]
def F.B0.L1:ACode:=.seq (.seq (.draw F.B0.r5 []) (.cond 60 (.skip) (.exit 2))) (.block 3 (.region F.B0.r6))
def F.B0.r7:=[
 Dm 63 10,
 Dm 64 11,
 Dd 65 (.bin .gtr 63 64)]
def F.B0.r8:=[
 Dm 66 0,
 Dm 67 11,
 Dm 68 0,
 Dm 69 1,
 Dm 70 0,
 Dm 71 1,
 Dd 72 (.idxs 1 70 71),
 Dd 73 (.load 1 false 72),
 Dm 74 0,
 Dm 75 11,
 Dd 76 (.idxs 1 74 75),
 Dd 77 (.load 1 false 76),
 Dd 78 (.idxs 1 66 67),
 De (.store 1 78 73),
 Dd 79 (.idxs 1 68 69),
 De (.store 1 79 77)]
def F.B0.r9:=[
 Dm 80 11,
 Dm 8 80,
 Dd 9 (.mv (.const (.bool true)))]
def F.B0.r10:=[
 Dm 81 0,
 Dm 82 10,
 Dm 83 0,
 Dm 84 11,
 Dm 85 0,
 Dm 86 11,
 Dd 87 (.idxs 1 85 86),
 Dd 88 (.load 1 false 87),
 Dm 89 0,
 Dm 90 10,
 Dd 91 (.idxs 1 89 90),
 Dd 92 (.load 1 false 91),
 Dd 93 (.idxs 1 81 82),
 De (.store 1 93 88),
 Dd 94 (.idxs 1 83 84),
 De (.store 1 94 92)]
def F.B0.r11:=[
 Dm 95 10,
 Dd 96 (.bin .add 95 (Ci 1)),
 Dm 10 96]
def F.B0.r12:=[
 Dm 97 11,
 Dd 98 (.bin .sub 97 (Ci 1)),
 Dm 11 98]
def F.B0.r13:=[
 Dm 99 10,
 Dm 100 11,
 Dd 101 (.bin .leq 99 100),
 Dm 102 101,
 ⟨some 103,.mv 0,(some (102,true)),[]⟩,
 ⟨some 104,.mv 10,(some (102,true)),[]⟩,
 ⟨some 105,.idxs 1 103 104,(some (102,true)),[]⟩,
 ⟨some 106,.load 1 false 105,(some (102,true)),[]⟩,
 ⟨some 107,.mv 0,(some (102,true)),[]⟩,
 ⟨some 108,.mv 1,(some (102,true)),[]⟩,
 ⟨some 109,.idxs 1 107 108,(some (102,true)),[]⟩,
 ⟨some 110,.load 1 false 109,(some (102,true)),[]⟩,
 ⟨some 111,.call I.D4 [106,110],(some (102,true)),[]⟩,
 Dd 112 (.pick 102 111 (.const (.bool false)))]
def F.B0.r14:=[
 Dm 113 10,
 Dd 114 (.bin .add 113 (Ci 1)),
 Dm 10 114]
def F.B0.L3:ACode:=.seq (.seq (.draw F.B0.r13 []) (.cond 112 (.skip) (.exit 6))) (.block 7 (.region F.B0.r14))
def F.B0.r15:=[
 Dm 115 10,
 Dm 116 11,
 Dd 117 (.bin .leq 115 116),
 Dm 118 117,
 ⟨some 119,.mv 0,(some (118,true)),[]⟩,
 ⟨some 120,.mv 11,(some (118,true)),[]⟩,
 ⟨some 121,.idxs 1 119 120,(some (118,true)),[]⟩,
 ⟨some 122,.load 1 false 121,(some (118,true)),[]⟩,
 ⟨some 123,.mv 0,(some (118,true)),[]⟩,
 ⟨some 124,.mv 1,(some (118,true)),[]⟩,
 ⟨some 125,.idxs 1 123 124,(some (118,true)),[]⟩,
 ⟨some 126,.load 1 false 125,(some (118,true)),[]⟩,
 ⟨some 127,.call I.D4 [122,126],(some (118,true)),[]⟩,
 ⟨some 128,.un .not 127,(some (118,true)),[]⟩,
 Dd 129 (.pick 118 128 (.const (.bool false)))]
def F.B0.r16:=[
 Dm 130 11,
 Dd 131 (.bin .sub 130 (Ci 1)),
 Dm 11 131]
def F.B0.L4:ACode:=.seq (.seq (.draw F.B0.r15 []) (.cond 129 (.skip) (.exit 8))) (.block 9 (.region F.B0.r16))
def F.B0.r17:=[
 Dm 132 10,
 Dm 133 11,
 Dd 134 (.bin .gtr 132 133)]
def F.B0.r18:=[
 Dm 135 0,
 Dm 136 10,
 Dm 137 0,
 Dm 138 11,
 Dm 139 0,
 Dm 140 11,
 Dd 141 (.idxs 1 139 140),
 Dd 142 (.load 1 false 141),
 Dm 143 0,
 Dm 144 10,
 Dd 145 (.idxs 1 143 144),
 Dd 146 (.load 1 false 145),
 Dd 147 (.idxs 1 135 136),
 De (.store 1 147 142),
 Dd 148 (.idxs 1 137 138),
 De (.store 1 148 146)]
def F.B0.r19:=[
 Dm 149 10,
 Dd 150 (.bin .add 149 (Ci 1)),
 Dm 10 150]
def F.B0.r20:=[
 Dm 151 11,
 Dd 152 (.bin .sub 151 (Ci 1)),
 Dm 11 152]
def F.B0.L2:ACode:=.block 5 (.seq (.block 6 (.loop F.B0.L3)) (.seq (.block 8 (.loop F.B0.L4)) (.seq (sr F.B0.r17 (.cond 134 (.exit 4) (.skip))) (.seq (.draw F.B0.r18 []) (sr F.B0.r19 (.region F.B0.r20))))))
def F.B0.r21:=[
 Dm 153 0,
 Dm 154 11,
 Dm 155 0,
 Dm 156 1,
 Dm 157 0,
 Dm 158 1,
 Dd 159 (.idxs 1 157 158),
 Dd 160 (.load 1 false 159),
 Dm 161 0,
 Dm 162 11,
 Dd 163 (.idxs 1 161 162),
 Dd 164 (.load 1 false 163),
 Dd 165 (.idxs 1 153 154),
 De (.store 1 165 160),
 Dd 166 (.idxs 1 155 156),
 De (.store 1 166 164)]
def F.B0.r22:=[
 Dm 167 11,
 Dm 8 167,
 Dd 9 (.mv (.const (.bool false)))]
def F.B0.c:ACode:=sr F.B0.r0 (.seq (.draw F.B0.r1 []) (sr F.B0.r2 (.seq (.block 0 (.loop F.B0.L0)) (.seq (.block 2 (.loop F.B0.L1)) (.seq (sr F.B0.r7 (.cond 65 (.seq (.draw F.B0.r8 []) (sr F.B0.r9 (.ret))) (.skip))) (.seq (.draw F.B0.r10 []) (sr F.B0.r11 (sr F.B0.r12 (.seq (.block 4 (.loop F.B0.L2)) (.seq (.draw F.B0.r21 []) (sr F.B0.r22 (.ret))))))))))))
def F.B0:AFunc:=⟨F.B0.c,[.tmp 8,.tmp 9]⟩
def F.C6.r0:=[
 Dm 10 1,
 Dm 8 10]
def F.C6.r1:=[
 Dm 11 8,
 Dd 12 (.bin .mul (Ci 2) 11),
 Dd 13 (.bin .add 12 (Ci 1)),
 Dm 9 13]
def F.C6.r2:=[
 Dm 14 9,
 Dm 15 2,
 Dd 16 (.bin .geq 14 15)]
def F.C6.r3:=[
 Dm 17 9,
 Dd 18 (.bin .add 17 (Ci 1)),
 Dm 19 2,
 Dd 20 (.bin .lss 18 19),
 Dm 21 20,
 ⟨some 22,.mv 0,(some (21,true)),[]⟩,
 ⟨some 23,.mv 3,(some (21,true)),[]⟩,
 ⟨some 24,.mv 9,(some (21,true)),[]⟩,
 ⟨some 25,.bin .add 23 24,(some (21,true)),[]⟩,
 ⟨some 26,.idxs 1 22 25,(some (21,true)),[]⟩,
 ⟨some 27,.load 1 false 26,(some (21,true)),[]⟩,
 ⟨some 28,.mv 0,(some (21,true)),[]⟩,
 ⟨some 29,.mv 3,(some (21,true)),[]⟩,
 ⟨some 30,.mv 9,(some (21,true)),[]⟩,
 ⟨some 31,.bin .add 29 30,(some (21,true)),[]⟩,
 ⟨some 32,.bin .add 31 (Ci 1),(some (21,true)),[]⟩,
 ⟨some 33,.idxs 1 28 32,(some (21,true)),[]⟩,
 ⟨some 34,.load 1 false 33,(some (21,true)),[]⟩,
 ⟨some 35,.call I.D4 [27,34],(some (21,true)),[]⟩,
 Dd 36 (.pick 21 35 (.const (.bool false)))]
def F.C6.r4:=[
 Dm 37 9,
 Dd 38 (.bin .add 37 (Ci 1)),
 Dm 9 38]
def F.C6.r5:=[
 Dm 39 0,
 Dm 40 3,
 Dm 41 8,
 Dd 42 (.bin .add 40 41),
 Dd 43 (.idxs 1 39 42),
 Dd 44 (.load 1 false 43),
 Dm 45 0,
 Dm 46 3,
 Dm 47 9,
 Dd 48 (.bin .add 46 47),
 Dd 49 (.idxs 1 45 48),
 Dd 50 (.load 1 false 49),
 Dd 51 (.call I.D4 [44,50]),
 Dd 52 (.un .not 51)]
def F.C6.r6:=[
 Dm 53 0,
 Dm 54 3,
 Dm 55 8,
 Dd 56 (.bin .add 54 55),
 Dm 57 0,
 Dm 58 3,
 Dm 59 9,
 Dd 60 (.bin .add 58 59),
 Dm 61 0,
 Dm 62 3,
 Dm 63 9,
 Dd 64 (.bin .add 62 63),
 Dd 65 (.idxs 1 61 64),
 Dd 66 (.load 1 false 65),
 Dm 67 0,
 Dm 68 3,
 Dm 69 8,
 Dd 70 (.bin .add 68 69),
 Dd 71 (.idxs 1 67 70),
 Dd 72 (.load 1 false 71),
 Dd 73 (.idxs 1 53 56),
 De (.store 1 73 66),
 Dd 74 (.idxs 1 57 60),
 De (.store 1 74 72)]
def F.C6.r7:=[
 Dm 75 9,
 Dm 8 75]
def F.C6.L0:ACode:=.block 1 (sr F.C6.r1 (.seq (sr F.C6.r2 (.cond 16 (.exit 0) (.skip))) (.seq (.seq (.draw F.C6.r3 []) (.cond 36 (.region F.C6.r4) (.skip))) (.seq (.seq (.draw F.C6.r5 []) (.cond 52 (.ret) (.skip))) (.seq (.draw F.C6.r6 []) (.region F.C6.r7))))))
def F.C6.c:ACode:=sr F.C6.r0 (.block 0 (.loop F.C6.L0))
def F.C6:AFunc:=⟨F.C6.c,[]⟩
def F.G6.r0:=[
 Dd 2 (.mv (.const (.int .u64 0)))]
def F.G6.r1:=[
 Dm 3 0,
 Dd 4 (.conv .u64 3),
 Dd 5 (.call I.J2 [4]),
 Dd 6 (.bin .shl (.const (.int .u64 1)) 5),
 Dm 2 6]
def F.G6.c:ACode:=sr F.G6.r0 (sr F.G6.r1 (.ret))
def F.G6:AFunc:=⟨F.G6.c,[.tmp 2]⟩
def F.G2.r0:=[
 Dd 2 (.mv (.const (.int .u64 0)))]
def F.G2.r1:=[
 Dm 3 0,
 Dd 4 (.nilchk 3),
 Dd 5 (.load 1 false 4),
 Dm 6 0,
 Dd 7 (.nilchk 6),
 Dd 8 (.load 1 false 7),
 Dd 9 (.bin .shl 8 (.const (.int .u64 13))),
 Dd 10 (.bin .xor 5 9),
 Dd 11 (.nilchk 3),
 De (.store 1 11 10)]
def F.G2.r2:=[
 Dm 12 0,
 Dd 13 (.nilchk 12),
 Dd 14 (.load 1 false 13),
 Dm 15 0,
 Dd 16 (.nilchk 15),
 Dd 17 (.load 1 false 16),
 Dd 18 (.bin .shr 17 (.const (.int .u64 7))),
 Dd 19 (.bin .xor 14 18),
 Dd 20 (.nilchk 12),
 De (.store 1 20 19)]
def F.G2.r3:=[
 Dm 21 0,
 Dd 22 (.nilchk 21),
 Dd 23 (.load 1 false 22),
 Dm 24 0,
 Dd 25 (.nilchk 24),
 Dd 26 (.load 1 false 25),
 Dd 27 (.bin .shl 26 (.const (.int .u64 17))),
 Dd 28 (.bin .xor 23 27),
 Dd 29 (.nilchk 21),
 De (.store 1 29 28)]
def F.G2.r4:=[
 Dm 30 0,
 Dd 31 (.nilchk 30),
 Dd 32 (.load 1 false 31),
 Dm 2 32]
def F.G2.c:ACode:=sr F.G2.r0 (.seq (.draw F.G2.r1 []) (.seq (.draw F.G2.r2 []) (.seq (.draw F.G2.r3 []) (sr F.G2.r4 (.ret)))))
def F.G2:AFunc:=⟨F.G2.c,[.tmp 2]⟩
def F.D1.r0:=[
 Dd 6 (.mv (Ci 0))]
def F.D1.r1:=[
 Dm 7 0,
 Dm 8 1,
 Dd 9 (.bin .sub 8 (Ci 1)),
 Dm 10 1,
 Dm 11 1,
 Dd 12 (.bin .add 11 (Ci 1)),
 Dm 13 2,
 Dd 14 (.call I.E3 [7,9,10,12,13]),
 Dm 6 14]
def F.D1.c:ACode:=sr F.D1.r0 (sr F.D1.r1 (.ret))
def F.D1:AFunc:=⟨F.D1.c,[.tmp 6]⟩
def F.E3.r0:=[
 Dd 10 (.mv (Ci 0))]
def F.E3.r1:=[
 Dm 12 0,
 Dm 13 1,
 Dm 14 2,
 Dm 15 4,
 Dd 16 (.call I.D9 [12,13,14,15]),
 Dm 11 16,
 Dd 17 (.extract 11 0),
 Dd 18 (.extract 11 1),
 Dm 1 17,
 Dm 2 18]
def F.E3.r2:=[
 Dm 20 0,
 Dm 21 2,
 Dm 22 3,
 Dm 23 4,
 Dd 24 (.call I.D9 [20,21,22,23]),
 Dm 19 24,
 Dd 25 (.extract 19 0),
 Dd 26 (.extract 19 1),
 Dm 2 25,
 Dm 3 26]
def F.E3.r3:=[
 Dm 28 0,
 Dm 29 1,
 Dm 30 2,
 Dm 31 4,
 Dd 32 (.call I.D9 [28,29,30,31]),
 Dm 27 32,
 Dd 33 (.extract 27 0),
 Dd 34 (.extract 27 1),
 Dm 1 33,
 Dm 2 34]
def F.E3.r4:=[
 Dm 35 2,
 Dm 10 35]
def F.E3.c:ACode:=sr F.E3.r0 (sr F.E3.r1 (sr F.E3.r2 (sr F.E3.r3 (sr F.E3.r4 (.ret)))))
def F.E3:AFunc:=⟨F.E3.c,[.tmp 10]⟩
def F.D9.r0:=[
 Dd 8 (.mv (Ci 0)),
 Dd 9 (.mv (Ci 0))]
def F.D9.r1:=[
 Dm 10 0,
 Dm 11 2,
 Dd 12 (.idxs 1 10 11),
 Dd 13 (.load 1 false 12),
 Dm 14 0,
 Dm 15 1,
 Dd 16 (.idxs 1 14 15),
 Dd 17 (.load 1 false 16),
 Dd 18 (.call I.D4 [13,17])]
def F.D9.r2:=[
 Dm 19 3,
 Dd 20 (.nilchk 19),
 Dd 21 (.load 1 false 20),
 Dd 22 (.bin .add 21 (Ci 1)),
 Dd 23 (.nilchk 19),
 De (.store 1 23 22)]
def F.D9.r3:=[
 Dm 24 2,
 Dm 25 1,
 Dm 8 24,
 Dm 9 25]
def F.D9.r4:=[
 Dm 26 1,
 Dm 27 2,
 Dm 8 26,
 Dm 9 27]
def F.D9.c:ACode:=sr F.D9.r0 (.seq (.seq (.draw F.D9.r1 []) (.cond 18 (sr F.D9.r2 (sr F.D9.r3 (.ret))) (.skip))) (sr F.D9.r4 (.ret)))
def F.D9:AFunc:=⟨F.D9.c,[.tmp 8,.tmp 9]⟩
end Go.Proofs.Ytmfkjilndpchbaa
