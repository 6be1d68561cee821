import Derived.Test.YtmfkjilndpchbaaI
namespace Go.Proofs.Ytmfkjilndpchbaa
open Go Go.Ab
def F.D4.r0:=[
 Dd 2 (.alloc [.int .i64 0,.int .i64 0,.int .i64 0,.slice none 0 0])]
def F.D4.r1:=[
 Dm 6 0,
 Dd 7 (.build [.slice none 0 0] [(0,1,6)]),
 Dd 8 (.box 7),
 Dm 3 8]
def F.D4.r2:=[
 Dm 9 3,
 Dd 10 (.call I.C3 [9,.const (.int .i64 3)]),
 Dd 11 (.bin .add (Ci 1) 10),
 Dm 12 3,
 Dd 13 (.call I.C3 [12,.const (.int .i64 4)]),
 Dd 14 (.bin .add (Ci 1) 13),
 Dd 15 (.build [.int .i64 0,.int .i64 0,.int .i64 0,.slice none 0 0] [(0,1,11),(1,1,14)]),
 Dd 4 (.alloc [.int .i64 0,.int .i64 0,.int .i64 0,.slice none 0 0]),
 De (.store 4 4 15)]
def F.D4.r3:=[
 Dm 16 3,
 Dd 17 (.faddr 1 4),
 Dd 18 (.load 1 false 17),
 Dd 19 (.call I.C3 [16,18]),
 Dd 20 (.faddr 2 4),
 De (.store 1 20 19)]
def F.D4.r4:=[
 Dm 21 3,
 Dd 22 (.call I.C3 [21,.const (.int .i64 8)]),
 Dd 23 (.bin .add (Ci 1) 22),
 Dd 24 (.mv (Ci 0))]
def F.D4.r5:=[
 Dd 25 (.bin .lss 24 23)]
def F.D4.r6:=[
 Dm 26 3,
 Dd 27 (.faddr 1 4),
 Dd 28 (.load 1 false 27),
 Dd 29 (.call I.C3 [26,28]),
 Dd 30 (.build [.int .i64 0,.slice none 0 0] [(0,1,29)]),
 Dd 5 (.alloc [.int .i64 0,.slice none 0 0]),
 De (.store 2 5 30)]
def F.D4.r7:=[
 Dm 31 3,
 Dd 32 (.call I.C3 [31,.const (.int .i64 4)]),
 Dd 33 (.mv (Ci 0))]
def F.D4.r8:=[
 Dd 34 (.bin .lss 33 32)]
def F.D4.r9:=[
 Dm 35 3,
 Dd 36 (.call I.C3 [35,.const (.int .i64 2)]),
 Dd 37 (.bin .eql 36 (Ci 0))]
def F.D4.r10:=[
 Dd 38 (.faddr 1 5),
 Dd 39 (.load 1 false 38),
 Dm 40 3,
 Dd 41 (.faddr 0 4),
 Dd 42 (.load 1 false 41),
 Dd 43 (.call I.C3 [40,42]),
 Dd 44 (.build [.bool false,.int .i64 0] [(0,1,.const (.bool true)),(1,1,43)]),
 Dd 45 (.bslice 2 1 [.bool false,.int .i64 0] [(0,2,44)]),
 Dd 46 (.append 2 16 39 45),
 Dd 47 (.faddr 1 5),
 De (.store 1 47 46)]
def F.D4.r11:=[
 Dd 48 (.faddr 1 5),
 Dd 49 (.load 1 false 48),
 Dm 50 3,
 Dd 51 (.faddr 1 4),
 Dd 52 (.load 1 false 51),
 Dd 53 (.call I.C3 [50,52]),
 Dd 54 (.build [.bool false,.int .i64 0] [(1,1,53)]),
 Dd 55 (.bslice 2 1 [.bool false,.int .i64 0] [(0,2,54)]),
 Dd 56 (.append 2 16 49 55),
 Dd 57 (.faddr 1 5),
 De (.store 1 57 56)]
def F.D4.r12:=[
 Dd 58 (.bin .add 33 (Ci 1)),
 Dm 33 58]
def F.D4.L1:ACode:=sr F.D4.r8 (.seq (.cond 34 (.skip) (.exit 2)) (.seq (.block 3 (sr F.D4.r9 (.cond 37 (.draw F.D4.r10 [(1,5)]) (.draw F.D4.r11 [(1,5)])))) (.region F.D4.r12)))
def F.D4.r13:=[
 Dd 59 (.faddr 3 4),
 Dd 60 (.load 1 false 59),
 Dd 61 (.load 2 true 5),
 Dd 62 (.call I.F3 [60,61]),
 Dd 63 (.un .not 62)]
def F.D4.r14:=[
 Dd 64 (.faddr 3 4),
 Dd 65 (.load 1 false 64),
 Dd 66 (.load 2 true 5),
 Dd 67 (.bslice 2 1 [.int .i64 0,.slice none 0 0] [(0,2,66)]),
 Dd 68 (.append 2 32 65 67),
 Dd 69 (.faddr 3 4),
 De (.store 1 69 68)]
def F.D4.r15:=[
 Dd 70 (.bin .add 24 (Ci 1)),
 Dm 24 70]
def F.D4.L0:ACode:=sr F.D4.r5 (.seq (.cond 25 (.skip) (.exit 0)) (.seq (.block 1 (sr F.D4.r6 (.seq (sr F.D4.r7 (.block 2 (.loop F.D4.L1))) (sr F.D4.r13 (.cond 63 (.region F.D4.r14) (.skip)))))) (.region F.D4.r15)))
def F.D4.r16:=[
 Dd 71 (.load 4 true 4),
 De (.store 4 2 71)]
def F.D4.c:ACode:=sr F.D4.r0 (sr F.D4.r1 (sr F.D4.r2 (sr F.D4.r3 (.seq (sr F.D4.r4 (.block 0 (.loop F.D4.L0))) (sr F.D4.r16 (.ret))))))
def F.D4:AFunc:=⟨F.D4.c,[.cell 2 4 true]⟩
def F.K3.r0:=[
 Dd 2 (.box 0),
 Dd 4 (.alloc [.int .i64 0,.int .i64 0,.slice none 0 0]),
 Dd 5 (.mv (.const (.bool false)))]
def F.K3.r1:=[
 Dd 6 (.alloc [.int .i64 0]),
 De (.store 1 6 (Ci 60))]
def F.K3.r2:=[
 Dd 7 (.load 4 true 2),
 Dd 8 (.faddr 2 2),
 Dd 9 (.load 1 false 8),
 Dd 10 (.build [.bool false,.int .i64 0] [(1,1,9)]),
 Dm 11 1,
 Dd 12 (.build [.slice none 0 0] [(0,1,11)]),
 Dd 13 (.box 12),
 Dd 14 (.call I.D2 [7,10,13,6,.const (.int .i64 12)]),
 Dd 15 (.extract 14 0),
 Dd 16 (.extract 14 1),
 De (.store 3 4 15),
 Dm 5 16]
def F.K3.c:ACode:=sr F.K3.r0 (sr F.K3.r1 (sr F.K3.r2 (.ret)))
def F.K3:AFunc:=⟨F.K3.c,[.cell 4 3 true,.tmp 5]⟩
def F.C3.r0:=[
 Dd 4 (.mv (Ci 0))]
def F.C3.r1:=[
 Dm 6 0,
 Dd 7 (.nilchk 6),
 Dd 8 (.faddr 0 7),
 Dd 9 (.load 1 false 8),
 Dd 10 (.len 9),
 Dd 11 (.bin .eql 10 (Ci 0))]
def F.C3.r2:=[
 Dd 4 (.mv (Ci 0))]
def F.C3.r3:=[
 Dm 12 0,
 Dd 13 (.nilchk 12),
 Dd 14 (.faddr 0 13),
 Dd 15 (.load 1 false 14),
 Dd 16 (.idxs 1 15 (Ci 0)),
 Dd 17 (.load 1 false 16),
 Dm 5 17]
def F.C3.r4:=[
 Dm 18 0,
 Dm 19 0,
 Dd 20 (.nilchk 19),
 Dd 21 (.faddr 0 20),
 Dd 22 (.load 1 false 21),
 Dd 23 (.slice 1 22 (some (Ci 1)) none),
 Dd 24 (.nilchk 18),
 Dd 25 (.faddr 0 24),
 De (.store 1 25 23)]
def F.C3.r5:=[
 Dm 26 5,
 Dm 27 1,
 Dd 28 (.call I.J4 [26,27]),
 Dm 4 28]
def F.C3.c:ACode:=sr F.C3.r0 (.seq (sr F.C3.r1 (.cond 11 (sr F.C3.r2 (.ret)) (.skip))) (sr F.C3.r3 (sr F.C3.r4 (sr F.C3.r5 (.ret)))))
def F.C3:AFunc:=⟨F.C3.c,[.tmp 4]⟩
def F.F3.r0:=[
 Dd 3 (.box 1),
 Dd 4 (.mv (.const (.bool false)))]
def F.F3.r1:=[
 Dm 9 0,
 Dd 10 (.len 9),
 Dd 11 (.mv (Ci 0))]
def F.F3.r2:=[
 Dd 12 (.bin .lss 11 10)]
def F.F3.r3:=[
 Dd 13 (.idxs 2 9 11),
 Dd 14 (.load 2 true 13),
 Dd 6 (.alloc [.int .i64 0,.slice none 0 0]),
 De (.store 2 6 14)]
def F.F3.r4:=[
 Dd 15 (.faddr 0 6),
 Dd 16 (.load 1 false 15),
 Dd 17 (.faddr 0 3),
 Dd 18 (.load 1 false 17),
 Dd 19 (.bin .neq 16 18),
 Dm 20 19,
 ⟨some 21,.faddr 1 6,(some (20,false)),[]⟩,
 ⟨some 22,.load 1 false 21,(some (20,false)),[]⟩,
 ⟨some 23,.len 22,(some (20,false)),[]⟩,
 ⟨some 24,.faddr 1 3,(some (20,false)),[]⟩,
 ⟨some 25,.load 1 false 24,(some (20,false)),[]⟩,
 ⟨some 26,.len 25,(some (20,false)),[]⟩,
 ⟨some 27,.bin .neq 23 26,(some (20,false)),[]⟩,
 Dd 28 (.pick 20 (.const (.bool true)) 27)]
def F.F3.r5:=[
 Dd 7 (.mv (.const (.bool true)))]
def F.F3.r6:=[
 Dd 29 (.faddr 1 6),
 Dd 30 (.load 1 false 29),
 Dd 31 (.len 30),
 Dd 32 (.mv (Ci 0))]
def F.F3.r7:=[
 Dd 33 (.bin .lss 32 31)]
def F.F3.r8:=[
 Dm 34 32,
 Dm 8 34]
def F.F3.r9:=[
 Dm 35 7,
 Dm 36 35,
 ⟨some 37,.faddr 1 6,(some (36,true)),[]⟩,
 ⟨some 38,.load 1 false 37,(some (36,true)),[]⟩,
 ⟨some 39,.mv 8,(some (36,true)),[]⟩,
 ⟨some 40,.idxs 2 38 39,(some (36,true)),[]⟩,
 ⟨some 41,.load 2 true 40,(some (36,true)),[]⟩,
 ⟨some 42,.faddr 1 3,(some (36,true)),[]⟩,
 ⟨some 43,.load 1 false 42,(some (36,true)),[]⟩,
 ⟨some 44,.mv 8,(some (36,true)),[]⟩,
 ⟨some 45,.idxs 2 43 44,(some (36,true)),[]⟩,
 ⟨some 46,.load 2 true 45,(some (36,true)),[]⟩,
 ⟨some 47,.eq false (.struct [(0,.bool),(1,.int)]) 41 46,(some (36,true)),[]⟩,
 Dd 48 (.pick 36 47 (.const (.bool false))),
 Dm 7 48]
def F.F3.r10:=[
 Dd 49 (.bin .add 32 (Ci 1)),
 Dm 32 49]
def F.F3.L1:ACode:=sr F.F3.r7 (.seq (.cond 33 (.skip) (.exit 2)) (.seq (.block 3 (sr F.F3.r8 (.draw F.F3.r9 []))) (.region F.F3.r10)))
def F.F3.r11:=[
 Dm 50 7]
def F.F3.r12:=[
 Dd 4 (.mv (.const (.bool true)))]
def F.F3.r13:=[
 Dd 51 (.bin .add 11 (Ci 1)),
 Dm 11 51]
def F.F3.L0:ACode:=sr F.F3.r2 (.seq (.cond 12 (.skip) (.exit 0)) (.seq (.block 1 (sr F.F3.r3 (.seq (sr F.F3.r4 (.cond 28 (.exit 1) (.skip))) (sr F.F3.r5 (.seq (sr F.F3.r6 (.block 2 (.loop F.F3.L1))) (sr F.F3.r11 (.cond 50 (sr F.F3.r12 (.ret)) (.skip)))))))) (.region F.F3.r13)))
def F.F3.r14:=[
 Dd 4 (.mv (.const (.bool false)))]
def F.F3.c:ACode:=sr F.F3.r0 (.seq (sr F.F3.r1 (.block 0 (.loop F.F3.L0))) (sr F.F3.r14 (.ret)))
def F.F3:AFunc:=⟨F.F3.c,[.tmp 4]⟩
def F.D2.r0:=[
 Dd 5 (.box 0),
 Dd 6 (.box 1),
 Dd 10 (.alloc [.int .i64 0,.int .i64 0,.slice none 0 0]),
 Dd 11 (.mv (.const (.bool false)))]
def F.D2.r1:=[
 Dm 20 3,
 Dd 21 (.nilchk 20),
 Dd 22 (.load 1 false 21),
 Dd 23 (.bin .sub 22 (Ci 1)),
 Dd 24 (.nilchk 20),
 De (.store 1 24 23)]
def F.D2.r2:=[
 Dm 25 3,
 Dd 26 (.nilchk 25),
 Dd 27 (.load 1 false 26),
 Dd 28 (.bin .lss 27 (Ci 0)),
 Dm 29 28,
 ⟨some 30,.mv 4,(some (29,false)),[]⟩,
 ⟨some 31,.bin .lss 30 (Ci 0),(some (29,false)),[]⟩,
 Dd 32 (.pick 29 (.const (.bool true)) 31)]
def F.D2.r3:=[
 Dd 33 (.build [.int .i64 0,.int .i64 0,.slice none 0 0] []),
 De (.store 3 10 33),
 Dd 11 (.mv (.const (.bool false)))]
def F.D2.r4:=[
 Dd 34 (.faddr 0 6),
 Dd 35 (.load 1 false 34)]
def F.D2.r5:=[
 Dd 36 (.faddr 1 6),
 Dd 37 (.load 1 false 36),
 Dd 38 (.build [.int .i64 0,.int .i64 0,.slice none 0 0] [(0,1,.const (.int .i64 (-1))),(1,1,37)]),
 De (.store 3 10 38),
 Dd 11 (.mv (.const (.bool true)))]
def F.D2.r6:=[
 Dd 12 (.mv (.const (.slice none 0 0)))]
def F.D2.r7:=[
 Dd 39 (.faddr 3 5),
 Dd 40 (.load 1 false 39),
 Dd 41 (.len 40),
 Dd 42 (.mv (Ci 0))]
def F.D2.r8:=[
 Dd 43 (.bin .lss 42 41)]
def F.D2.r9:=[
 Dm 44 42,
 Dd 45 (.idxs 2 40 42),
 Dd 46 (.load 2 true 45),
 Dd 14 (.alloc [.int .i64 0,.slice none 0 0]),
 Dm 13 44,
 De (.store 2 14 46)]
def F.D2.r10:=[
 Dd 47 (.faddr 0 14),
 Dd 48 (.load 1 false 47),
 Dd 49 (.faddr 1 6),
 Dd 50 (.load 1 false 49),
 Dd 51 (.bin .eql 48 50)]
def F.D2.r11:=[
 Dm 52 12,
 Dm 53 13,
 Dd 54 (.bslice 1 1 [.int .i64 0] [(0,1,53)]),
 Dd 55 (.append 1 8 52 54),
 Dm 12 55]
def F.D2.r12:=[
 Dd 56 (.bin .add 42 (Ci 1)),
 Dm 42 56]
def F.D2.L0:ACode:=sr F.D2.r8 (.seq (.cond 43 (.skip) (.exit 0)) (.seq (.block 1 (sr F.D2.r9 (sr F.D2.r10 (.cond 51 (.region F.D2.r11) (.skip))))) (.region F.D2.r12)))
def F.D2.r13:=[
 Dm 57 12,
 Dd 58 (.len 57),
 Dd 59 (.bin .eql 58 (Ci 0))]
def F.D2.r14:=[
 Dd 60 (.build [.int .i64 0,.int .i64 0,.slice none 0 0] []),
 De (.store 3 10 60),
 Dd 11 (.mv (.const (.bool false)))]
def F.D2.r15:=[
 Dm 61 12,
 Dm 62 2,
 Dm 63 12,
 Dd 64 (.len 63),
 Dd 65 (.call I.C3 [62,64]),
 Dd 66 (.idxs 1 61 65),
 Dd 67 (.load 1 false 66),
 Dd 68 (.build [.int .i64 0,.int .i64 0,.slice none 0 0] [(0,1,67)]),
 Dd 15 (.alloc [.int .i64 0,.int .i64 0,.slice none 0 0]),
 De (.store 3 15 68)]
def F.D2.r16:=[
 Dd 69 (.faddr 3 5),
 Dd 70 (.load 1 false 69),
 Dd 71 (.faddr 0 15),
 Dd 72 (.load 1 false 71),
 Dd 73 (.idxs 2 70 72),
 Dd 74 (.faddr 1 73),
 Dd 75 (.load 1 false 74),
 Dd 76 (.len 75),
 Dd 77 (.mv (Ci 0))]
def F.D2.r17:=[
 Dd 78 (.bin .lss 77 76)]
def F.D2.r18:=[
 Dd 79 (.idxs 2 75 77),
 Dd 80 (.load 2 true 79),
 Dd 17 (.alloc [.bool false,.int .i64 0]),
 De (.store 2 17 80)]
def F.D2.r19:=[
 Dd 82 (.load 4 true 5),
 Dd 83 (.load 2 true 17),
 Dm 84 2,
 Dm 85 3,
 Dm 86 4,
 Dd 87 (.bin .sub 86 (Ci 1)),
 Dd 88 (.call I.D2 [82,83,84,85,87]),
 Dm 81 88,
 Dd 89 (.extract 81 0),
 Dd 90 (.extract 81 1),
 Dd 18 (.alloc [.int .i64 0,.int .i64 0,.slice none 0 0]),
 De (.store 3 18 89),
 Dm 19 90]
def F.D2.r20:=[
 Dm 91 19,
 Dd 92 (.un .not 91)]
def F.D2.r21:=[
 Dd 93 (.build [.int .i64 0,.int .i64 0,.slice none 0 0] []),
 De (.store 3 10 93),
 Dd 11 (.mv (.const (.bool false)))]
def F.D2.r22:=[
 Dd 94 (.faddr 2 15),
 Dd 95 (.load 1 false 94),
 Dd 96 (.load 3 true 18),
 Dd 97 (.bslice 3 1 [.int .i64 0,.int .i64 0,.slice none 0 0] [(0,3,96)]),
 Dd 98 (.append 3 40 95 97),
 Dd 99 (.faddr 2 15),
 De (.store 1 99 98)]
def F.D2.r23:=[
 Dd 100 (.bin .add 77 (Ci 1)),
 Dm 77 100]
def F.D2.L1:ACode:=sr F.D2.r17 (.seq (.cond 78 (.skip) (.exit 2)) (.seq (.block 3 (sr F.D2.r18 (sr F.D2.r19 (.seq (sr F.D2.r20 (.cond 92 (sr F.D2.r21 (.ret)) (.skip))) (.region F.D2.r22))))) (.region F.D2.r23)))
def F.D2.r24:=[
 Dd 101 (.load 3 true 15),
 De (.store 3 10 101),
 Dd 11 (.mv (.const (.bool true)))]
def F.D2.c:ACode:=sr F.D2.r0 (.seq (sr F.D2.r1 (sr F.D2.r2 (.cond 32 (sr F.D2.r3 (.ret)) (.skip)))) (.seq (sr F.D2.r4 (.cond 35 (sr F.D2.r5 (.ret)) (.skip))) (sr F.D2.r6 (.seq (sr F.D2.r7 (.block 0 (.loop F.D2.L0))) (.seq (sr F.D2.r13 (.cond 59 (sr F.D2.r14 (.ret)) (.skip))) (sr F.D2.r15 (.seq (sr F.D2.r16 (.block 2 (.loop F.D2.L1))) (sr F.D2.r24 (.ret)))))))))
def F.D2:AFunc:=⟨F.D2.c,[.cell 10 3 true,.tmp 11]⟩
def F.J4.r0:=[
 Dd 4 (.mv (Ci 0))]
def F.J4.r1:=[
 Dm 5 0,
 Dm 6 1,
 Dd 7 (.bin .rem 5 6),
 Dm 0 7]
def F.J4.r2:=[
 Dm 8 0,
 Dd 9 (.bin .lss 8 (Ci 0))]
def F.J4.r3:=[
 Dm 10 0,
 Dm 11 1,
 Dd 12 (.bin .add 10 11),
 Dm 0 12]
def F.J4.r4:=[
 Dm 13 0,
 Dm 4 13]
def F.J4.c:ACode:=sr F.J4.r0 (sr F.J4.r1 (.seq (sr F.J4.r2 (.cond 9 (.region F.J4.r3) (.skip))) (sr F.J4.r4 (.ret))))
def F.J4:AFunc:=⟨F.J4.c,[.tmp 4]⟩
end Go.Proofs.Ytmfkjilndpchbaa
