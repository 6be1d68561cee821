import Derived.Test.YtmfkjilndpchbaaI
namespace Go.Proofs.Ytmfkjilndpchbaa
open Go Go.Ab
def F.E1.r0:=[
 Dd 1 (.box 0),
 Dd 2 (.mv (Ci 0))]
def F.E1.r1:=[
 Dd 9 (.faddr 0 1),
 Dd 10 (.load 1 false 9),
 Dd 11 (.bin .lss 10 (Ci 1)),
 Dm 12 11,
 ⟨some 13,.faddr 0 1,(some (12,false)),[]⟩,
 ⟨some 14,.load 1 false 13,(some (12,false)),[]⟩,
 ⟨some 15,.bin .gtr 14 (Ci 8),(some (12,false)),[]⟩,
 Dd 16 (.pick 12 (.const (.bool true)) 15),
 Dm 17 16,
 ⟨some 18,.faddr 1 1,(some (17,false)),[]⟩,
 ⟨some 19,.load 1 false 18,(some (17,false)),[]⟩,
 ⟨some 20,.bin .lss 19 (Ci 1),(some (17,false)),[]⟩,
 Dd 21 (.pick 17 (.const (.bool true)) 20),
 Dm 22 21,
 ⟨some 23,.faddr 1 1,(some (22,false)),[]⟩,
 ⟨some 24,.load 1 false 23,(some (22,false)),[]⟩,
 ⟨some 25,.bin .gtr 24 (Ci 10),(some (22,false)),[]⟩,
 Dd 26 (.pick 22 (.const (.bool true)) 25),
 Dm 27 26,
 ⟨some 28,.faddr 2 1,(some (27,false)),[]⟩,
 ⟨some 29,.load 1 false 28,(some (27,false)),[]⟩,
 ⟨some 30,.bin .lss 29 (Ci 0),(some (27,false)),[]⟩,
 Dd 31 (.pick 27 (.const (.bool true)) 30),
 Dm 32 31,
 ⟨some 33,.faddr 2 1,(some (32,false)),[]⟩,
 ⟨some 34,.load 1 false 33,(some (32,false)),[]⟩,
 ⟨some 35,.faddr 1 1,(some (32,false)),[]⟩,
 ⟨some 36,.load 1 false 35,(some (32,false)),[]⟩,
 ⟨some 37,.bin .geq 34 36,(some (32,false)),[]⟩,
 Dd 38 (.pick 32 (.const (.bool true)) 37)]
def F.E1.r2:=[
 Dd 2 (.mv (Ci 1))]
def F.E1.r3:=[
 Dd 39 (.faddr 3 1),
 Dd 40 (.load 1 false 39),
 Dd 41 (.len 40),
 Dd 42 (.bin .gtr 41 (Ci 32))]
def F.E1.r4:=[
 Dd 2 (.mv (Ci 2))]
def F.E1.r5:=[
 Dd 43 (.faddr 3 1),
 Dd 44 (.load 1 false 43),
 Dd 45 (.len 44),
 Dd 46 (.mv (Ci 0))]
def F.E1.r6:=[
 Dd 47 (.bin .lss 46 45)]
def F.E1.r7:=[
 Dm 48 46,
 Dd 49 (.idxs 2 44 46),
 Dd 50 (.load 2 true 49),
 Dd 4 (.alloc [.int .i64 0,.slice none 0 0]),
 Dm 3 48,
 De (.store 2 4 50)]
def F.E1.r8:=[
 Dd 51 (.faddr 0 4),
 Dd 52 (.load 1 false 51),
 Dd 53 (.bin .lss 52 (Ci 0)),
 Dm 54 53,
 ⟨some 55,.faddr 0 4,(some (54,false)),[]⟩,
 ⟨some 56,.load 1 false 55,(some (54,false)),[]⟩,
 ⟨some 57,.faddr 1 1,(some (54,false)),[]⟩,
 ⟨some 58,.load 1 false 57,(some (54,false)),[]⟩,
 ⟨some 59,.bin .geq 56 58,(some (54,false)),[]⟩,
 Dd 60 (.pick 54 (.const (.bool true)) 59)]
def F.E1.r9:=[
 Dd 2 (.mv (Ci 3))]
def F.E1.r10:=[
 Dd 61 (.faddr 1 4),
 Dd 62 (.load 1 false 61),
 Dd 63 (.len 62),
 Dd 64 (.bin .gtr 63 (Ci 4))]
def F.E1.r11:=[
 Dd 2 (.mv (Ci 2))]
def F.E1.r12:=[
 Dd 65 (.faddr 1 4),
 Dd 66 (.load 1 false 65),
 Dd 67 (.len 66),
 Dd 68 (.mv (Ci 0))]
def F.E1.r13:=[
 Dd 69 (.bin .lss 68 67)]
def F.E1.r14:=[
 Dd 70 (.idxs 2 66 68),
 Dd 71 (.load 2 true 70),
 Dd 6 (.alloc [.bool false,.int .i64 0]),
 De (.store 2 6 71)]
def F.E1.r15:=[
 Dd 72 (.faddr 1 6),
 Dd 73 (.load 1 false 72),
 Dd 74 (.bin .lss 73 (Ci 0)),
 Dm 75 74,
 ⟨some 76,.faddr 0 6,(some (75,false)),[]⟩,
 ⟨some 77,.load 1 false 76,(some (75,false)),[]⟩,
 ⟨some 78,.mv 77,(some (75,false)),[]⟩,
 ⟨some 79,.faddr 1 6,(some (78,true)),[]⟩,
 ⟨some 80,.load 1 false 79,(some (78,true)),[]⟩,
 ⟨some 81,.faddr 0 1,(some (78,true)),[]⟩,
 ⟨some 82,.load 1 false 81,(some (78,true)),[]⟩,
 ⟨some 83,.bin .geq 80 82,(some (78,true)),[]⟩,
 ⟨some 84,.pick 78 83 (.const (.bool false)),(some (75,false)),[]⟩,
 Dd 85 (.pick 75 (.const (.bool true)) 84),
 Dm 86 85,
 ⟨some 87,.faddr 0 6,(some (86,false)),[]⟩,
 ⟨some 88,.load 1 false 87,(some (86,false)),[]⟩,
 ⟨some 89,.un .not 88,(some (86,false)),[]⟩,
 ⟨some 90,.mv 89,(some (86,false)),[]⟩,
 ⟨some 91,.faddr 1 6,(some (90,true)),[]⟩,
 ⟨some 92,.load 1 false 91,(some (90,true)),[]⟩,
 ⟨some 93,.faddr 1 1,(some (90,true)),[]⟩,
 ⟨some 94,.load 1 false 93,(some (90,true)),[]⟩,
 ⟨some 95,.bin .geq 92 94,(some (90,true)),[]⟩,
 ⟨some 96,.pick 90 95 (.const (.bool false)),(some (86,false)),[]⟩,
 Dd 97 (.pick 86 (.const (.bool true)) 96)]
def F.E1.r16:=[
 Dd 2 (.mv (Ci 3))]
def F.E1.r17:=[
 Dd 98 (.bin .add 68 (Ci 1)),
 Dm 68 98]
def F.E1.L1:ACode:=sr F.E1.r13 (.seq (.cond 69 (.skip) (.exit 2)) (.seq (.block 3 (sr F.E1.r14 (sr F.E1.r15 (.cond 97 (sr F.E1.r16 (.ret)) (.skip))))) (.region F.E1.r17)))
def F.E1.r18:=[
 Dd 99 (.faddr 3 1),
 Dd 100 (.load 1 false 99),
 Dm 101 3,
 Dd 102 (.slice 2 100 none (some 101)),
 Dd 103 (.len 102),
 Dd 104 (.mv (Ci 0))]
def F.E1.r19:=[
 Dd 105 (.bin .lss 104 103)]
def F.E1.r20:=[
 Dd 106 (.idxs 2 102 104),
 Dd 107 (.load 2 true 106),
 Dd 8 (.alloc [.int .i64 0,.slice none 0 0]),
 De (.store 2 8 107)]
def F.E1.r21:=[
 Dd 108 (.load 2 true 8),
 Dd 109 (.load 2 true 4),
 Dd 110 (.call I.J8 [108,109]),
 Dd 111 (.bin .eql 110 (Ci 0))]
def F.E1.r22:=[
 Dd 2 (.mv (Ci 6))]
def F.E1.r23:=[
 Dd 112 (.bin .add 104 (Ci 1)),
 Dm 104 112]
def F.E1.L2:ACode:=sr F.E1.r19 (.seq (.cond 105 (.skip) (.exit 4)) (.seq (.block 5 (sr F.E1.r20 (sr F.E1.r21 (.cond 111 (sr F.E1.r22 (.ret)) (.skip))))) (.region F.E1.r23)))
def F.E1.r24:=[
 Dd 113 (.bin .add 46 (Ci 1)),
 Dm 46 113]
def F.E1.L0:ACode:=sr F.E1.r6 (.seq (.cond 47 (.skip) (.exit 0)) (.seq (.block 1 (sr F.E1.r7 (.seq (sr F.E1.r8 (.cond 60 (sr F.E1.r9 (.ret)) (.skip))) (.seq (sr F.E1.r10 (.cond 64 (sr F.E1.r11 (.ret)) (.skip))) (.seq (sr F.E1.r12 (.block 2 (.loop F.E1.L1))) (sr F.E1.r18 (.block 4 (.loop F.E1.L2)))))))) (.region F.E1.r24)))
def F.E1.r25:=[
 Dd 2 (.mv (Ci 0))]
def F.E1.c:ACode:=sr F.E1.r0 (.seq (sr F.E1.r1 (.cond 38 (sr F.E1.r2 (.ret)) (.skip))) (.seq (sr F.E1.r3 (.cond 42 (sr F.E1.r4 (.ret)) (.skip))) (.seq (sr F.E1.r5 (.block 0 (.loop F.E1.L0))) (sr F.E1.r25 (.ret)))))
def F.E1:AFunc:=⟨F.E1.c,[.tmp 2]⟩
def F.J8.r0:=[
 Dd 2 (.box 0),
 Dd 3 (.box 1),
 Dd 4 (.mv (Ci 0))]
def F.J8.r1:=[
 Dd 6 (.faddr 0 2),
 Dd 7 (.load 1 false 6),
 Dd 8 (.faddr 0 3),
 Dd 9 (.load 1 false 8),
 Dd 10 (.call I.F1 [7,9]),
 Dm 5 10]
def F.J8.r2:=[
 Dm 11 5,
 Dd 12 (.bin .neq 11 (Ci 0))]
def F.J8.r3:=[
 Dm 13 5,
 Dm 4 13]
def F.J8.r4:=[
 Dd 14 (.faddr 1 2),
 Dd 15 (.load 1 false 14),
 Dd 16 (.faddr 1 3),
 Dd 17 (.load 1 false 16),
 Dd 18 (.call I.B3 [15,17,.func I.J9]),
 Dm 4 18]
def F.J8.c:ACode:=sr F.J8.r0 (.seq (sr F.J8.r1 (sr F.J8.r2 (.cond 12 (sr F.J8.r3 (.ret)) (.skip)))) (sr F.J8.r4 (.ret)))
def F.J8:AFunc:=⟨F.J8.c,[.tmp 4]⟩
def F.J9.r0:=[
 Dd 2 (.box 0),
 Dd 3 (.box 1),
 Dd 4 (.mv (Ci 0))]
def F.J9.r1:=[
 Dd 6 (.faddr 0 2),
 Dd 7 (.load 1 false 6),
 Dm 8 7,
 ⟨some 9,.faddr 0 3,(some (8,true)),[]⟩,
 ⟨some 10,.load 1 false 9,(some (8,true)),[]⟩,
 ⟨some 11,.un .not 10,(some (8,true)),[]⟩,
 Dd 12 (.pick 8 11 (.const (.bool false))),
 Dm 5 12]
def F.J9.r2:=[
 Dd 4 (.mv (Ci (-1)))]
def F.J9.r3:=[
 Dd 14 (.faddr 0 2),
 Dd 15 (.load 1 false 14),
 Dd 16 (.un .not 15),
 Dm 17 16,
 ⟨some 18,.faddr 0 3,(some (17,true)),[]⟩,
 ⟨some 19,.load 1 false 18,(some (17,true)),[]⟩,
 Dd 20 (.pick 17 19 (.const (.bool false))),
 Dm 13 20]
def F.J9.r4:=[
 Dd 4 (.mv (Ci 1))]
def F.J9.r5:=[
 Dd 21 (.faddr 1 2),
 Dd 22 (.load 1 false 21),
 Dd 23 (.faddr 1 3),
 Dd 24 (.load 1 false 23),
 Dd 25 (.call I.F1 [22,24]),
 Dm 4 25]
def F.J9.c:ACode:=sr F.J9.r0 (.seq (.block 0 (sr F.J9.r1 (.cond 5 (sr F.J9.r2 (.ret)) (sr F.J9.r3 (.cond 13 (sr F.J9.r4 (.ret)) (.skip)))))) (sr F.J9.r5 (.ret)))
def F.J9:AFunc:=⟨F.J9.c,[.tmp 4]⟩
end Go.Proofs.Ytmfkjilndpchbaa
