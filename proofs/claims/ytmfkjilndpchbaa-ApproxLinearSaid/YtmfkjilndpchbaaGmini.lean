import Derived.Test.YtmfkjilndpchbaaI
namespace Go.Proofs.Ytmfkjilndpchbaa
open Go Go.Ab
def F.G0.r0:=[
 Dd 1 (.box 0),
 Dd 2 (.alloc [.int .i64 0,.slice none 0 0,.slice none 0 0]),
 Dd 3 (.mv (Ci 0))]
def F.G0.r1:=[
 Dd 17 (.load 3 true 1),
 Dd 18 (.call I.D8 [17]),
 Dm 4 18]
def F.G0.r2:=[
 Dm 19 4,
 Dd 20 (.bin .neq 19 (Ci 0))]
def F.G0.r3:=[
 Dd 21 (.build [.int .i64 0,.slice none 0 0,.slice none 0 0] []),
 Dm 22 4,
 De (.store 3 2 21),
 Dm 3 22]
def F.G0.r4:=[
 Dd 23 (.load 3 true 1),
 Dd 24 (.call I.C5 [23]),
 Dd 5 (.alloc [.slice none 0 0,.slice none 0 0,.slice none 0 0]),
 De (.store 3 5 24)]
def F.G0.r5:=[
 Dd 25 (.load 3 true 5),
 Dd 26 (.call I.B9 [25]),
 Dm 6 26]
def F.G0.r6:=[
 Dm 27 6,
 Dd 28 (.faddr 2 1),
 Dd 29 (.load 1 false 28),
 Dd 30 (.len 29),
 Dd 31 (.idxs 1 27 30),
 Dd 32 (.load 1 false 31),
 Dm 7 32]
def F.G0.r7:=[
 Dd 33 (.mkmap),
 Dm 34 6,
 Dd 35 (.faddr 0 1),
 Dd 36 (.load 1 false 35),
 Dd 37 (.idxs 1 34 36),
 Dd 38 (.load 1 false 37),
 De (.mset .int 33 38 (Ci 0)),
 Dm 39 33,
 Dm 8 39]
def F.G0.r8:=[
 Dd 40 (.build [.int .i64 0,.slice none 0 0,.slice none 0 0] []),
 Dd 9 (.alloc [.int .i64 0,.slice none 0 0,.slice none 0 0]),
 De (.store 3 9 40)]
def F.G0.r9:=[
 Dd 41 (.faddr 0 1),
 Dd 42 (.load 1 false 41),
 Dd 43 (.bslice 1 1 [.int .i64 0] [(0,1,42)]),
 Dm 10 43]
def F.G0.r10:=[
 Dm 44 10,
 Dd 45 (.len 44),
 Dd 46 (.bin .gtr 45 (Ci 0))]
def F.G0.r12:=[
 Dd 49 (.bslice 1 1 [.int .i64 0] [(0,1,.const (.int .i64 (-1)))]),
 Dd 50 (.faddr 2 1),
 Dd 51 (.load 1 false 50),
 Dd 52 (.idxs 1 51 (Ci 0)),
 Dd 53 (.load 1 false 52),
 Dd 54 (.len 53),
 Dd 55 (.call I.D0 [49,54]),
 Dm 11 55]
def F.G0.r13:=[
 Dd 56 (.faddr 1 5),
 Dd 57 (.load 1 false 56),
 Dm 58 10,
 Dd 59 (.idxs 1 58 (Ci 0)),
 Dd 60 (.load 1 false 59),
 Dd 61 (.idxs 1 57 60),
 Dd 62 (.load 1 false 61),
 Dd 63 (.len 62),
 Dd 64 (.mv (Ci 0))]
def F.G0.r14:=[
 Dd 65 (.bin .lss 64 63)]
def F.G0.r15:=[
 Dm 66 64,
 Dd 67 (.idxs 1 62 64),
 Dd 68 (.load 1 false 67),
 Dm 12 66,
 Dm 13 68]
def F.G0.r16:=[
 Dm 69 6,
 Dm 70 13,
 Dd 71 (.idxs 1 69 70),
 Dd 72 (.load 1 false 71),
 Dm 14 72]
def F.G0.r17:=[
 Dm 73 14,
 Dm 74 7,
 Dd 75 (.bin .eql 73 74)]
def F.G0.r18:=[
 Dm 77 8,
 Dm 78 14,
 Dd 79 (.mlook .int (.int .i64 0) true 77 78),
 Dm 76 79,
 Dd 80 (.extract 76 0),
 Dd 81 (.extract 76 1),
 Dm 15 80,
 Dm 16 81]
def F.G0.r19:=[
 Dm 82 16,
 Dd 83 (.un .not 82)]
def F.G0.r20:=[
 Dm 84 8,
 Dm 85 14,
 Dm 86 8,
 Dd 87 (.lenm 86),
 De (.mset .int 84 85 87)]
def F.G0.r21:=[
 Dm 88 10,
 Dm 89 13,
 Dd 90 (.bslice 1 1 [.int .i64 0] [(0,1,89)]),
 Dd 91 (.append 1 8 88 90),
 Dm 10 91]
def F.G0.r22:=[
 Dm 92 11,
 Dm 93 12,
 Dm 94 8,
 Dm 95 14,
 Dd 96 (.mlook .int (.int .i64 0) false 94 95),
 Dd 97 (.idxs 1 92 93),
 De (.store 1 97 96)]
def F.G0.r23:=[
 Dd 98 (.bin .add 64 (Ci 1)),
 Dm 64 98]
def F.G0.L1:ACode:=sr F.G0.r14 (.seq (.cond 65 (.skip) (.exit 2)) (.seq (.block 3 (sr F.G0.r15 (sr F.G0.r16 (.seq (sr F.G0.r17 (.cond 75 (.exit 3) (.skip))) (.seq (sr F.G0.r18 (sr F.G0.r19 (.cond 83 (sr F.G0.r20 (.region F.G0.r21)) (.skip)))) (.region F.G0.r22)))))) (.region F.G0.r23)))
def F.G0.r24:=[
 Dd 99 (.faddr 1 9),
 Dd 100 (.load 1 false 99),
 Dd 101 (.faddr 0 5),
 Dd 102 (.load 1 false 101),
 Dm 103 10,
 Dd 104 (.idxs 1 103 (Ci 0)),
 Dd 105 (.load 1 false 104),
 Dd 106 (.idxs 1 102 105),
 Dd 107 (.load 1 false 106),
 Dd 108 (.bslice 1 1 [.int .i64 0] [(0,1,107)]),
 Dd 109 (.append 1 8 100 108),
 Dd 110 (.faddr 2 9),
 Dd 111 (.load 1 false 110),
 Dm 112 11,
 Dd 113 (.bslice 1 1 [.slice none 0 0] [(0,1,112)]),
 Dd 114 (.append 1 24 111 113),
 Dd 115 (.faddr 1 9),
 De (.store 1 115 109),
 Dd 116 (.faddr 2 9),
 De (.store 1 116 114)]
def F.G0.r11:=[
 Dm 47 10,
 Dd 48 (.slice 1 47 (some (Ci 1)) none),
 Dm 10 48]
def F.G0.L0:ACode:=.seq (sr F.G0.r10 (.cond 46 (.skip) (.exit 0))) (.seq (.block 1 (sr F.G0.r12 (.seq (.seq (.draw F.G0.r13 []) (.block 2 (.loop F.G0.L1))) (.draw F.G0.r24 [(12,10)])))) (.region F.G0.r11))
def F.G0.r25:=[
 Dd 117 (.load 3 true 9),
 De (.store 3 2 117),
 Dd 3 (.mv (Ci 0))]
def F.G0.c:ACode:=sr F.G0.r0 (.seq (sr F.G0.r1 (sr F.G0.r2 (.cond 20 (sr F.G0.r3 (.ret)) (.skip)))) (sr F.G0.r4 (sr F.G0.r5 (sr F.G0.r6 (sr F.G0.r7 (sr F.G0.r8 (.seq (sr F.G0.r9 (.block 0 (.loop F.G0.L0))) (sr F.G0.r25 (.ret)))))))))
def F.G0:AFunc:=⟨F.G0.c,[.cell 2 3 true,.tmp 3]⟩
def F.C5.r0:=[
 Dd 1 (.box 0),
 Dd 2 (.alloc [.slice none 0 0,.slice none 0 0,.slice none 0 0])]
def F.C5.r1:=[
 Dd 13 (.faddr 2 1),
 Dd 14 (.load 1 false 13),
 Dd 15 (.len 14),
 Dd 16 (.faddr 2 1),
 Dd 17 (.load 1 false 16),
 Dd 18 (.idxs 1 17 (Ci 0)),
 Dd 19 (.load 1 false 18),
 Dd 20 (.len 19),
 Dm 3 15,
 Dm 4 20]
def F.C5.r2:=[
 Dd 21 (.faddr 1 1),
 Dd 22 (.load 1 false 21),
 Dd 23 (.call I.F4 [22]),
 Dd 24 (.bslice 1 1 [.int .i64 0] [(0,1,.const (.int .i64 (-1)))]),
 Dd 25 (.append 1 8 23 24),
 Dd 26 (.build [.slice none 0 0,.slice none 0 0,.slice none 0 0] [(0,1,25)]),
 Dd 5 (.alloc [.slice none 0 0,.slice none 0 0,.slice none 0 0]),
 De (.store 3 5 26)]
def F.C5.r3:=[
 Dm 27 3,
 Dd 28 (.bin .add 27 (Ci 1)),
 Dd 29 (.mv (Ci 0))]
def F.C5.r4:=[
 Dd 30 (.bin .lss 29 28)]
def F.C5.r5:=[
 Dm 31 29,
 Dm 6 31]
def F.C5.r6:=[
 Dm 32 3,
 Dd 33 (.bslice 1 1 [.int .i64 0] [(0,1,32)]),
 Dm 34 4,
 Dd 35 (.call I.D0 [33,34]),
 Dm 7 35]
def F.C5.r7:=[
 Dm 36 6,
 Dm 37 3,
 Dd 38 (.bin .lss 36 37)]
def F.C5.r8:=[
 Dd 39 (.faddr 2 1),
 Dd 40 (.load 1 false 39),
 Dm 41 6,
 Dd 42 (.idxs 1 40 41),
 Dd 43 (.load 1 false 42),
 Dd 44 (.len 43),
 Dd 45 (.mv (Ci 0))]
def F.C5.r9:=[
 Dd 46 (.bin .lss 45 44)]
def F.C5.r10:=[
 Dm 47 45,
 Dd 48 (.idxs 1 43 45),
 Dd 49 (.load 1 false 48),
 Dm 8 47,
 Dm 9 49]
def F.C5.r11:=[
 Dm 50 9,
 Dd 51 (.bin .geq 50 (Ci 0))]
def F.C5.r12:=[
 Dm 52 7,
 Dm 53 8,
 Dm 54 9,
 Dd 55 (.idxs 1 52 53),
 De (.store 1 55 54)]
def F.C5.r13:=[
 Dd 56 (.bin .add 45 (Ci 1)),
 Dm 45 56]
def F.C5.L1:ACode:=sr F.C5.r9 (.seq (.cond 46 (.skip) (.exit 2)) (.seq (.block 3 (sr F.C5.r10 (sr F.C5.r11 (.cond 51 (.region F.C5.r12) (.skip))))) (.region F.C5.r13)))
def F.C5.r14:=[
 Dd 57 (.faddr 1 5),
 Dd 58 (.load 1 false 57),
 Dm 59 7,
 Dd 60 (.bslice 1 1 [.slice none 0 0] [(0,1,59)]),
 Dd 61 (.append 1 24 58 60),
 Dd 62 (.faddr 1 5),
 De (.store 1 62 61)]
def F.C5.r15:=[
 Dd 63 (.bin .add 29 (Ci 1)),
 Dm 29 63]
def F.C5.L0:ACode:=sr F.C5.r4 (.seq (.cond 30 (.skip) (.exit 0)) (.seq (.block 1 (sr F.C5.r5 (sr F.C5.r6 (.seq (sr F.C5.r7 (.cond 38 (sr F.C5.r8 (.block 2 (.loop F.C5.L1))) (.skip))) (.region F.C5.r14))))) (.region F.C5.r15)))
def F.C5.r16:=[
 Dm 64 4,
 Dd 65 (.mv (Ci 0))]
def F.C5.r17:=[
 Dd 66 (.bin .lss 65 64)]
def F.C5.r18:=[
 Dm 67 65,
 Dm 10 67]
def F.C5.r19:=[
 Dd 68 (.faddr 2 5),
 Dd 69 (.load 1 false 68),
 Dm 70 3,
 Dd 71 (.bin .add 70 (Ci 1)),
 Dd 72 (.mkslice 1 24 [.slice none 0 0] 71 71),
 Dd 73 (.bslice 1 1 [.slice none 0 0] [(0,1,72)]),
 Dd 74 (.append 1 24 69 73),
 Dd 75 (.faddr 2 5),
 De (.store 1 75 74)]
def F.C5.r20:=[
 Dd 76 (.faddr 1 5),
 Dd 77 (.load 1 false 76),
 Dd 78 (.len 77),
 Dd 79 (.mv (Ci 0))]
def F.C5.r21:=[
 Dd 80 (.bin .lss 79 78)]
def F.C5.r22:=[
 Dm 81 79,
 Dm 11 81]
def F.C5.r23:=[
 Dd 82 (.faddr 1 5),
 Dd 83 (.load 1 false 82),
 Dm 84 11,
 Dd 85 (.idxs 1 83 84),
 Dd 86 (.load 1 false 85),
 Dm 87 10,
 Dd 88 (.idxs 1 86 87),
 Dd 89 (.load 1 false 88),
 Dm 12 89]
def F.C5.r24:=[
 Dd 90 (.faddr 2 5),
 Dd 91 (.load 1 false 90),
 Dm 92 10,
 Dd 93 (.idxs 1 91 92),
 Dd 94 (.load 1 false 93),
 Dm 95 12,
 Dd 96 (.faddr 2 5),
 Dd 97 (.load 1 false 96),
 Dm 98 10,
 Dd 99 (.idxs 1 97 98),
 Dd 100 (.load 1 false 99),
 Dm 101 12,
 Dd 102 (.idxs 1 100 101),
 Dd 103 (.load 1 false 102),
 Dm 104 11,
 Dd 105 (.bslice 1 1 [.int .i64 0] [(0,1,104)]),
 Dd 106 (.append 1 8 103 105),
 Dd 107 (.idxs 1 94 95),
 De (.store 1 107 106)]
def F.C5.r25:=[
 Dd 108 (.bin .add 79 (Ci 1)),
 Dm 79 108]
def F.C5.L3:ACode:=sr F.C5.r21 (.seq (.cond 80 (.skip) (.exit 6)) (.seq (.block 7 (sr F.C5.r22 (sr F.C5.r23 (.draw F.C5.r24 [(1,16),(4,16)])))) (.region F.C5.r25)))
def F.C5.r26:=[
 Dd 109 (.bin .add 65 (Ci 1)),
 Dm 65 109]
def F.C5.L2:ACode:=sr F.C5.r17 (.seq (.cond 66 (.skip) (.exit 4)) (.seq (.block 5 (sr F.C5.r18 (.seq (.draw F.C5.r19 []) (sr F.C5.r20 (.block 6 (.loop F.C5.L3)))))) (.region F.C5.r26)))
def F.C5.r27:=[
 Dd 110 (.load 3 true 5),
 De (.store 3 2 110)]
def F.C5.c:ACode:=sr F.C5.r0 (.seq (.draw F.C5.r1 []) (sr F.C5.r2 (.seq (sr F.C5.r3 (.block 0 (.loop F.C5.L0))) (.seq (sr F.C5.r16 (.block 4 (.loop F.C5.L2))) (sr F.C5.r27 (.ret))))))
def F.C5:AFunc:=⟨F.C5.c,[.cell 2 3 true]⟩
def F.B9.r0:=[
 Dd 1 (.box 0),
 Dd 2 (.mv (.const (.slice none 0 0)))]
def F.B9.r1:=[
 Dd 15 (.faddr 0 1),
 Dd 16 (.load 1 false 15),
 Dd 17 (.call I.G7 [16]),
 Dm 3 17]
def F.B9.r2:=[
 Dd 4 (.mv (.const (.slice none 0 0)))]
def F.B9.r3:=[
 Dm 18 3,
 Dd 19 (.nilchk 18),
 Dd 20 (.faddr 1 19),
 Dd 21 (.load 1 false 20),
 Dd 22 (.len 21),
 Dd 23 (.mv (Ci 0))]
def F.B9.r4:=[
 Dd 24 (.bin .lss 23 22)]
def F.B9.r5:=[
 Dm 25 23,
 Dm 5 25]
def F.B9.r6:=[
 Dd 26 (.faddr 2 1),
 Dd 27 (.load 1 false 26),
 Dd 28 (.len 27),
 Dd 29 (.mv (Ci 0))]
def F.B9.r7:=[
 Dd 30 (.bin .lss 29 28)]
def F.B9.r8:=[
 Dm 31 29,
 Dm 6 31]
def F.B9.r9:=[
 Dm 32 4,
 Dm 33 5,
 Dm 34 6,
 Dd 35 (.build [.int .i64 0,.int .i64 0] [(0,1,33),(1,1,34)]),
 Dd 36 (.bslice 2 1 [.int .i64 0,.int .i64 0] [(0,2,35)]),
 Dd 37 (.append 2 16 32 36),
 Dm 4 37]
def F.B9.r10:=[
 Dd 38 (.bin .add 29 (Ci 1)),
 Dm 29 38]
def F.B9.L1:ACode:=sr F.B9.r7 (.seq (.cond 30 (.skip) (.exit 2)) (.seq (.block 3 (sr F.B9.r8 (.region F.B9.r9))) (.region F.B9.r10)))
def F.B9.r11:=[
 Dd 39 (.bin .add 23 (Ci 1)),
 Dm 23 39]
def F.B9.L0:ACode:=sr F.B9.r4 (.seq (.cond 24 (.skip) (.exit 0)) (.seq (.block 1 (sr F.B9.r5 (sr F.B9.r6 (.block 2 (.loop F.B9.L1))))) (.region F.B9.r11)))
def F.B9.r12:=[
 Dm 40 4,
 Dd 41 (.len 40),
 Dd 42 (.bin .gtr 41 (Ci 0))]
def F.B9.r13:=[
 Dm 43 4,
 Dm 44 4,
 Dd 45 (.len 44),
 Dd 46 (.bin .sub 45 (Ci 1)),
 Dd 47 (.idxs 2 43 46),
 Dd 48 (.load 2 true 47),
 Dd 7 (.alloc [.int .i64 0,.int .i64 0]),
 De (.store 2 7 48)]
def F.B9.r14:=[
 Dm 49 4,
 Dm 50 4,
 Dd 51 (.len 50),
 Dd 52 (.bin .sub 51 (Ci 1)),
 Dd 53 (.slice 2 49 none (some 52)),
 Dm 4 53]
def F.B9.r15:=[
 Dd 8 (.mv (.const (.slice none 0 0)))]
def F.B9.r16:=[
 Dm 54 3,
 Dd 55 (.nilchk 54),
 Dd 56 (.faddr 1 55),
 Dd 57 (.load 1 false 56),
 Dd 58 (.faddr 0 7),
 Dd 59 (.load 1 false 58),
 Dd 60 (.idxs 1 57 59),
 Dd 61 (.load 1 false 60),
 Dd 62 (.len 61),
 Dd 63 (.mv (Ci 0))]
def F.B9.r17:=[
 Dd 64 (.bin .lss 63 62)]
def F.B9.r18:=[
 Dd 65 (.idxs 1 61 63),
 Dd 66 (.load 1 false 65),
 Dm 10 66]
def F.B9.r19:=[
 Dm 67 8,
 Dd 68 (.faddr 2 1),
 Dd 69 (.load 1 false 68),
 Dd 70 (.faddr 1 7),
 Dd 71 (.load 1 false 70),
 Dd 72 (.idxs 1 69 71),
 Dd 73 (.load 1 false 72),
 Dm 74 10,
 Dd 75 (.idxs 1 73 74),
 Dd 76 (.load 1 false 75),
 Dd 77 (.append 1 8 67 76),
 Dm 8 77]
def F.B9.r20:=[
 Dd 78 (.bin .add 63 (Ci 1)),
 Dm 63 78]
def F.B9.L3:ACode:=sr F.B9.r17 (.seq (.cond 64 (.skip) (.exit 6)) (.seq (.block 7 (sr F.B9.r18 (.region F.B9.r19))) (.region F.B9.r20)))
def F.B9.r21:=[
 Dm 79 3,
 Dm 80 8,
 Dd 81 (.call I.B5 [79,80]),
 Dd 82 (.len 81),
 Dd 83 (.mv (Ci 0))]
def F.B9.r22:=[
 Dd 84 (.bin .lss 83 82)]
def F.B9.r23:=[
 Dd 85 (.idxs 2 81 83),
 Dd 86 (.load 2 true 85),
 Dd 12 (.alloc [.int .i64 0,.int .i64 0]),
 De (.store 2 12 86)]
def F.B9.r24:=[
 Dd 87 (.faddr 2 1),
 Dd 88 (.load 1 false 87),
 Dd 89 (.len 88),
 Dd 90 (.mv (Ci 0))]
def F.B9.r25:=[
 Dd 91 (.bin .lss 90 89)]
def F.B9.r26:=[
 Dm 92 90,
 Dm 13 92]
def F.B9.r27:=[
 Dd 93 (.idxa 2 1 12 (Ci 1)),
 Dd 94 (.load 1 false 93),
 Dm 14 94]
def F.B9.r28:=[
 Dm 95 3,
 Dd 96 (.nilchk 95),
 Dd 97 (.faddr 1 96),
 Dd 98 (.load 1 false 97),
 Dd 99 (.idxa 2 1 12 (Ci 0)),
 Dd 100 (.load 1 false 99),
 Dd 101 (.idxs 1 98 100),
 Dd 102 (.load 1 false 101),
 Dd 103 (.len 102),
 Dm 104 3,
 Dd 105 (.nilchk 104),
 Dd 106 (.faddr 1 105),
 Dd 107 (.load 1 false 106),
 Dd 108 (.idxa 2 1 12 (Ci 1)),
 Dd 109 (.load 1 false 108),
 Dd 110 (.idxs 1 107 109),
 Dd 111 (.load 1 false 110),
 Dd 112 (.len 111),
 Dd 113 (.bin .lss 103 112),
 Dm 114 113,
 ⟨some 115,.mv 4,(some (114,true)),[]⟩,
 ⟨some 116,.idxa 2 1 12 (Ci 0),(some (114,true)),[]⟩,
 ⟨some 117,.load 1 false 116,(some (114,true)),[]⟩,
 ⟨some 118,.mv 13,(some (114,true)),[]⟩,
 ⟨some 119,.build [.int .i64 0,.int .i64 0] [(0,1,117),(1,1,118)],(some (114,true)),[]⟩,
 ⟨some 120,.call I.D5 [115,119],(some (114,true)),[]⟩,
 ⟨some 121,.un .not 120,(some (114,true)),[]⟩,
 Dd 122 (.pick 114 121 (.const (.bool false)))]
def F.B9.r29:=[
 Dd 123 (.idxa 2 1 12 (Ci 0)),
 Dd 124 (.load 1 false 123),
 Dm 14 124]
def F.B9.r30:=[
 Dm 125 4,
 Dm 126 14,
 Dm 127 13,
 Dd 128 (.build [.int .i64 0,.int .i64 0] [(0,1,126),(1,1,127)]),
 Dd 129 (.bslice 2 1 [.int .i64 0,.int .i64 0] [(0,2,128)]),
 Dd 130 (.append 2 16 125 129),
 Dm 4 130]
def F.B9.r31:=[
 Dd 131 (.bin .add 90 (Ci 1)),
 Dm 90 131]
def F.B9.L5:ACode:=sr F.B9.r25 (.seq (.cond 91 (.skip) (.exit 10)) (.seq (.block 11 (sr F.B9.r26 (sr F.B9.r27 (.seq (.seq (.draw F.B9.r28 []) (.cond 122 (.region F.B9.r29) (.skip))) (.region F.B9.r30))))) (.region F.B9.r31)))
def F.B9.r32:=[
 Dd 132 (.bin .add 83 (Ci 1)),
 Dm 83 132]
def F.B9.L4:ACode:=sr F.B9.r22 (.seq (.cond 84 (.skip) (.exit 8)) (.seq (.block 9 (sr F.B9.r23 (sr F.B9.r24 (.block 10 (.loop F.B9.L5))))) (.region F.B9.r32)))
def F.B9.L2:ACode:=.seq (sr F.B9.r12 (.cond 42 (.skip) (.exit 4))) (.block 5 (sr F.B9.r13 (sr F.B9.r14 (sr F.B9.r15 (.seq (.seq (.draw F.B9.r16 []) (.block 6 (.loop F.B9.L3))) (sr F.B9.r21 (.block 8 (.loop F.B9.L4))))))))
def F.B9.r33:=[
 Dm 133 3,
 Dd 134 (.nilchk 133),
 Dd 135 (.faddr 0 134),
 Dd 136 (.load 1 false 135),
 Dm 2 136]
def F.B9.c:ACode:=sr F.B9.r0 (sr F.B9.r1 (sr F.B9.r2 (.seq (sr F.B9.r3 (.block 0 (.loop F.B9.L0))) (.seq (.block 4 (.loop F.B9.L2)) (sr F.B9.r33 (.ret))))))
def F.B9:AFunc:=⟨F.B9.c,[.tmp 2]⟩
def F.G7.r0:=[
 Dd 2 (.mv (.const (.pointer none)))]
def F.G7.r1:=[
 Dm 9 0,
 Dd 10 (.len 9),
 Dd 11 (.mkslice 1 8 [.int .i64 0] 10 10),
 Dd 12 (.build [.slice none 0 0,.slice none 0 0] [(0,1,11)]),
 Dd 13 (.box 12),
 Dm 3 13]
def F.G7.r2:=[
 Dd 14 (.mkmap),
 Dm 4 14]
def F.G7.r3:=[
 Dm 15 0,
 Dd 16 (.len 15),
 Dd 17 (.mv (Ci 0))]
def F.G7.r4:=[
 Dd 18 (.bin .lss 17 16)]
def F.G7.r5:=[
 Dm 19 17,
 Dd 20 (.idxs 1 15 17),
 Dd 21 (.load 1 false 20),
 Dm 5 19,
 Dm 6 21]
def F.G7.r6:=[
 Dm 23 4,
 Dm 24 6,
 Dd 25 (.mlook .int (.int .i64 0) true 23 24),
 Dm 22 25,
 Dd 26 (.extract 22 0),
 Dd 27 (.extract 22 1),
 Dm 7 26,
 Dm 8 27]
def F.G7.r7:=[
 Dm 28 8,
 Dd 29 (.un .not 28)]
def F.G7.r8:=[
 Dm 30 3,
 Dd 31 (.nilchk 30),
 Dd 32 (.faddr 1 31),
 Dd 33 (.load 1 false 32),
 Dd 34 (.len 33),
 Dm 7 34]
def F.G7.r9:=[
 Dm 35 4,
 Dm 36 6,
 Dm 37 7,
 De (.mset .int 35 36 37)]
def F.G7.r10:=[
 Dm 38 3,
 Dm 39 3,
 Dd 40 (.nilchk 39),
 Dd 41 (.faddr 1 40),
 Dd 42 (.load 1 false 41),
 Dd 43 (.bslice 1 1 [.slice none 0 0] [(0,1,.const (.slice none 0 0))]),
 Dd 44 (.append 1 24 42 43),
 Dd 45 (.nilchk 38),
 Dd 46 (.faddr 1 45),
 De (.store 1 46 44)]
def F.G7.r11:=[
 Dm 47 3,
 Dd 48 (.nilchk 47),
 Dd 49 (.faddr 0 48),
 Dd 50 (.load 1 false 49),
 Dm 51 5,
 Dm 52 3,
 Dd 53 (.nilchk 52),
 Dd 54 (.faddr 1 53),
 Dd 55 (.load 1 false 54),
 Dm 56 7,
 Dm 57 7,
 Dm 58 3,
 Dd 59 (.nilchk 58),
 Dd 60 (.faddr 1 59),
 Dd 61 (.load 1 false 60),
 Dm 62 7,
 Dd 63 (.idxs 1 61 62),
 Dd 64 (.load 1 false 63),
 Dm 65 5,
 Dd 66 (.bslice 1 1 [.int .i64 0] [(0,1,65)]),
 Dd 67 (.append 1 8 64 66),
 Dd 68 (.idxs 1 50 51),
 De (.store 1 68 57),
 Dd 69 (.idxs 1 55 56),
 De (.store 1 69 67)]
def F.G7.r12:=[
 Dd 70 (.bin .add 17 (Ci 1)),
 Dm 17 70]
def F.G7.L0:ACode:=sr F.G7.r4 (.seq (.cond 18 (.skip) (.exit 0)) (.seq (.block 1 (sr F.G7.r5 (sr F.G7.r6 (.seq (sr F.G7.r7 (.cond 29 (sr F.G7.r8 (sr F.G7.r9 (.region F.G7.r10))) (.skip))) (.draw F.G7.r11 [(3,20),(8,20)]))))) (.region F.G7.r12)))
def F.G7.r13:=[
 Dm 71 3,
 Dm 2 71]
def F.G7.c:ACode:=sr F.G7.r0 (sr F.G7.r1 (sr F.G7.r2 (.seq (sr F.G7.r3 (.block 0 (.loop F.G7.L0))) (sr F.G7.r13 (.ret)))))
def F.G7:AFunc:=⟨F.G7.c,[.tmp 2]⟩
def F.B5.r0:=[
 Dd 4 (.mv (.const (.slice none 0 0)))]
def F.B5.r1:=[
 Dd 19 (.mkmap),
 Dm 5 19]
def F.B5.r2:=[
 Dd 6 (.mv (.const (.slice none 0 0)))]
def F.B5.r3:=[
 Dm 20 1,
 Dd 21 (.len 20),
 Dd 22 (.mv (Ci 0))]
def F.B5.r4:=[
 Dd 23 (.bin .lss 22 21)]
def F.B5.r5:=[
 Dd 24 (.idxs 1 20 22),
 Dd 25 (.load 1 false 24),
 Dm 8 25]
def F.B5.r6:=[
 Dm 26 5,
 Dm 27 8,
 De (.mset .int 26 27 (.const (.bool true)))]
def F.B5.r7:=[
 Dm 28 6,
 Dm 29 0,
 Dd 30 (.nilchk 29),
 Dd 31 (.faddr 0 30),
 Dd 32 (.load 1 false 31),
 Dm 33 8,
 Dd 34 (.idxs 1 32 33),
 Dd 35 (.load 1 false 34),
 Dd 36 (.call I.C4 [28,35]),
 Dd 37 (.un .not 36)]
def F.B5.r8:=[
 Dm 38 6,
 Dm 39 0,
 Dd 40 (.nilchk 39),
 Dd 41 (.faddr 0 40),
 Dd 42 (.load 1 false 41),
 Dm 43 8,
 Dd 44 (.idxs 1 42 43),
 Dd 45 (.load 1 false 44),
 Dd 46 (.bslice 1 1 [.int .i64 0] [(0,1,45)]),
 Dd 47 (.append 1 8 38 46),
 Dm 6 47]
def F.B5.r9:=[
 Dd 48 (.bin .add 22 (Ci 1)),
 Dm 22 48]
def F.B5.L0:ACode:=sr F.B5.r4 (.seq (.cond 23 (.skip) (.exit 0)) (.seq (.block 1 (sr F.B5.r5 (sr F.B5.r6 (sr F.B5.r7 (.cond 37 (.region F.B5.r8) (.skip)))))) (.region F.B5.r9)))
def F.B5.r10:=[
 Dd 9 (.mv (.const (.slice none 0 0)))]
def F.B5.r11:=[
 Dm 49 6,
 Dd 50 (.len 49),
 Dd 51 (.mv (Ci 0))]
def F.B5.r12:=[
 Dd 52 (.bin .lss 51 50)]
def F.B5.r13:=[
 Dd 53 (.idxs 1 49 51),
 Dd 54 (.load 1 false 53),
 Dm 11 54]
def F.B5.r14:=[
 Dd 12 (.mv (.const (.slice none 0 0))),
 Dd 13 (.mv (.const (.slice none 0 0)))]
def F.B5.r15:=[
 Dm 55 0,
 Dd 56 (.nilchk 55),
 Dd 57 (.faddr 1 56),
 Dd 58 (.load 1 false 57),
 Dm 59 11,
 Dd 60 (.idxs 1 58 59),
 Dd 61 (.load 1 false 60),
 Dd 62 (.len 61),
 Dd 63 (.mv (Ci 0))]
def F.B5.r16:=[
 Dd 64 (.bin .lss 63 62)]
def F.B5.r17:=[
 Dd 65 (.idxs 1 61 63),
 Dd 66 (.load 1 false 65),
 Dm 15 66]
def F.B5.r18:=[
 Dm 67 5,
 Dm 68 15,
 Dd 69 (.mlook .int (.bool false) false 67 68)]
def F.B5.r19:=[
 Dm 70 12,
 Dm 71 15,
 Dd 72 (.bslice 1 1 [.int .i64 0] [(0,1,71)]),
 Dd 73 (.append 1 8 70 72),
 Dm 12 73]
def F.B5.r20:=[
 Dm 74 13,
 Dm 75 15,
 Dd 76 (.bslice 1 1 [.int .i64 0] [(0,1,75)]),
 Dd 77 (.append 1 8 74 76),
 Dm 13 77]
def F.B5.r21:=[
 Dd 78 (.bin .add 63 (Ci 1)),
 Dm 63 78]
def F.B5.L2:ACode:=sr F.B5.r16 (.seq (.cond 64 (.skip) (.exit 4)) (.seq (.block 5 (sr F.B5.r17 (sr F.B5.r18 (.cond 69 (.region F.B5.r19) (.region F.B5.r20))))) (.region F.B5.r21)))
def F.B5.r22:=[
 Dm 79 13,
 Dd 80 (.len 79),
 Dd 81 (.bin .eql 80 (Ci 0))]
def F.B5.r23:=[
 Dm 82 0,
 Dd 83 (.nilchk 82),
 Dd 84 (.faddr 1 83),
 Dd 85 (.load 1 false 84),
 Dd 86 (.len 85),
 Dm 16 86]
def F.B5.r24:=[
 Dm 87 0,
 Dd 88 (.nilchk 87),
 Dd 89 (.faddr 1 88),
 Dd 90 (.load 1 false 89),
 Dm 91 11,
 Dm 92 12,
 Dd 93 (.idxs 1 90 91),
 De (.store 1 93 92)]
def F.B5.r25:=[
 Dm 94 0,
 Dm 95 0,
 Dd 96 (.nilchk 95),
 Dd 97 (.faddr 1 96),
 Dd 98 (.load 1 false 97),
 Dm 99 13,
 Dd 100 (.bslice 1 1 [.slice none 0 0] [(0,1,99)]),
 Dd 101 (.append 1 24 98 100),
 Dd 102 (.nilchk 94),
 Dd 103 (.faddr 1 102),
 De (.store 1 103 101)]
def F.B5.r26:=[
 Dm 104 13,
 Dd 105 (.len 104),
 Dd 106 (.mv (Ci 0))]
def F.B5.r27:=[
 Dd 107 (.bin .lss 106 105)]
def F.B5.r28:=[
 Dd 108 (.idxs 1 104 106),
 Dd 109 (.load 1 false 108),
 Dm 18 109]
def F.B5.r29:=[
 Dm 110 0,
 Dd 111 (.nilchk 110),
 Dd 112 (.faddr 0 111),
 Dd 113 (.load 1 false 112),
 Dm 114 18,
 Dm 115 16,
 Dd 116 (.idxs 1 113 114),
 De (.store 1 116 115)]
def F.B5.r30:=[
 Dd 117 (.bin .add 106 (Ci 1)),
 Dm 106 117]
def F.B5.L3:ACode:=sr F.B5.r27 (.seq (.cond 107 (.skip) (.exit 6)) (.seq (.block 7 (sr F.B5.r28 (.region F.B5.r29))) (.region F.B5.r30)))
def F.B5.r31:=[
 Dm 118 9,
 Dm 119 11,
 Dm 120 16,
 Dd 121 (.build [.int .i64 0,.int .i64 0] [(0,1,119),(1,1,120)]),
 Dd 122 (.bslice 2 1 [.int .i64 0,.int .i64 0] [(0,2,121)]),
 Dd 123 (.append 2 16 118 122),
 Dm 9 123]
def F.B5.r32:=[
 Dd 124 (.bin .add 51 (Ci 1)),
 Dm 51 124]
def F.B5.L1:ACode:=sr F.B5.r12 (.seq (.cond 52 (.skip) (.exit 2)) (.seq (.block 3 (sr F.B5.r13 (sr F.B5.r14 (.seq (sr F.B5.r15 (.block 4 (.loop F.B5.L2))) (.seq (sr F.B5.r22 (.cond 81 (.exit 3) (.skip))) (sr F.B5.r23 (sr F.B5.r24 (sr F.B5.r25 (.seq (sr F.B5.r26 (.block 6 (.loop F.B5.L3))) (.region F.B5.r31)))))))))) (.region F.B5.r32)))
def F.B5.r33:=[
 Dm 125 9,
 Dm 4 125]
def F.B5.c:ACode:=sr F.B5.r0 (sr F.B5.r1 (sr F.B5.r2 (.seq (sr F.B5.r3 (.block 0 (.loop F.B5.L0))) (sr F.B5.r10 (.seq (sr F.B5.r11 (.block 2 (.loop F.B5.L1))) (sr F.B5.r33 (.ret)))))))
def F.B5:AFunc:=⟨F.B5.c,[.tmp 4]⟩
end Go.Proofs.Ytmfkjilndpchbaa
