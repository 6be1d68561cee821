import Derived.Test.YtmfkjilndpchbaaI
namespace Go.Proofs.Ytmfkjilndpchbaa
open Go Go.Ab
def F.D8.r0:=[
 Dd 1 (.box 0),
 Dd 2 (.mv (Ci 0))]
def F.D8.r1:=[
 Dd 10 (.faddr 2 1),
 Dd 11 (.load 1 false 10),
 Dd 12 (.len 11),
 Dd 13 (.bin .gtr 12 (Ci 200))]
def F.D8.r2:=[
 Dd 2 (.mv (Ci 2))]
def F.D8.r3:=[
 Dd 14 (.faddr 2 1),
 Dd 15 (.load 1 false 14),
 Dd 16 (.len 15),
 Dd 17 (.bin .eql 16 (Ci 0)),
 Dm 18 17,
 ⟨some 19,.faddr 1 1,(some (18,false)),[]⟩,
 ⟨some 20,.load 1 false 19,(some (18,false)),[]⟩,
 ⟨some 21,.len 20,(some (18,false)),[]⟩,
 ⟨some 22,.faddr 2 1,(some (18,false)),[]⟩,
 ⟨some 23,.load 1 false 22,(some (18,false)),[]⟩,
 ⟨some 24,.len 23,(some (18,false)),[]⟩,
 ⟨some 25,.bin .neq 21 24,(some (18,false)),[]⟩,
 Dd 26 (.pick 18 (.const (.bool true)) 25)]
def F.D8.r4:=[
 Dd 2 (.mv (Ci 3))]
def F.D8.r5:=[
 Dd 27 (.faddr 2 1),
 Dd 28 (.load 1 false 27),
 Dd 29 (.idxs 1 28 (Ci 0)),
 Dd 30 (.load 1 false 29),
 Dd 31 (.len 30),
 Dm 3 31]
def F.D8.r6:=[
 Dm 32 3,
 Dd 33 (.bin .gtr 32 (Ci 16))]
def F.D8.r7:=[
 Dd 2 (.mv (Ci 2))]
def F.D8.r8:=[
 Dd 34 (.faddr 2 1),
 Dd 35 (.load 1 false 34),
 Dd 36 (.len 35),
 Dd 37 (.mv (Ci 0))]
def F.D8.r9:=[
 Dd 38 (.bin .lss 37 36)]
def F.D8.r10:=[
 Dd 39 (.idxs 1 35 37),
 Dd 40 (.load 1 false 39),
 Dm 5 40]
def F.D8.r11:=[
 Dm 41 5,
 Dd 42 (.len 41),
 Dm 43 3,
 Dd 44 (.bin .neq 42 43),
 Dm 45 44,
 ⟨some 46,.mv 3,(some (45,false)),[]⟩,
 ⟨some 47,.bin .eql 46 (Ci 0),(some (45,false)),[]⟩,
 Dd 48 (.pick 45 (.const (.bool true)) 47)]
def F.D8.r12:=[
 Dd 2 (.mv (Ci 3))]
def F.D8.r13:=[
 Dd 49 (.bin .add 37 (Ci 1)),
 Dm 37 49]
def F.D8.L0:ACode:=sr F.D8.r9 (.seq (.cond 38 (.skip) (.exit 0)) (.seq (.block 1 (sr F.D8.r10 (sr F.D8.r11 (.cond 48 (sr F.D8.r12 (.ret)) (.skip))))) (.region F.D8.r13)))
def F.D8.r14:=[
 Dd 50 (.faddr 0 1),
 Dd 51 (.load 1 false 50),
 Dd 52 (.bin .lss 51 (Ci 0)),
 Dm 53 52,
 ⟨some 54,.faddr 0 1,(some (53,false)),[]⟩,
 ⟨some 55,.load 1 false 54,(some (53,false)),[]⟩,
 ⟨some 56,.faddr 2 1,(some (53,false)),[]⟩,
 ⟨some 57,.load 1 false 56,(some (53,false)),[]⟩,
 ⟨some 58,.len 57,(some (53,false)),[]⟩,
 ⟨some 59,.bin .geq 55 58,(some (53,false)),[]⟩,
 Dd 60 (.pick 53 (.const (.bool true)) 59)]
def F.D8.r15:=[
 Dd 2 (.mv (Ci 1))]
def F.D8.r16:=[
 Dd 61 (.faddr 2 1),
 Dd 62 (.load 1 false 61),
 Dd 63 (.len 62),
 Dd 64 (.mv (Ci 0))]
def F.D8.r17:=[
 Dd 65 (.bin .lss 64 63)]
def F.D8.r18:=[
 Dm 66 64,
 Dd 67 (.idxs 1 62 64),
 Dd 68 (.load 1 false 67),
 Dm 6 66,
 Dm 7 68]
def F.D8.r19:=[
 Dd 69 (.faddr 1 1),
 Dd 70 (.load 1 false 69),
 Dm 71 6,
 Dd 72 (.idxs 1 70 71),
 Dd 73 (.load 1 false 72),
 Dd 74 (.bin .lss 73 (Ci (-1)))]
def F.D8.r20:=[
 Dd 2 (.mv (Ci 1))]
def F.D8.r21:=[
 Dm 75 7,
 Dd 76 (.len 75),
 Dd 77 (.mv (Ci 0))]
def F.D8.r22:=[
 Dd 78 (.bin .lss 77 76)]
def F.D8.r23:=[
 Dd 79 (.idxs 1 75 77),
 Dd 80 (.load 1 false 79),
 Dm 9 80]
def F.D8.r24:=[
 Dm 81 9,
 Dd 82 (.bin .lss 81 (Ci (-1))),
 Dm 83 82,
 ⟨some 84,.mv 9,(some (83,false)),[]⟩,
 ⟨some 85,.faddr 2 1,(some (83,false)),[]⟩,
 ⟨some 86,.load 1 false 85,(some (83,false)),[]⟩,
 ⟨some 87,.len 86,(some (83,false)),[]⟩,
 ⟨some 88,.bin .geq 84 87,(some (83,false)),[]⟩,
 Dd 89 (.pick 83 (.const (.bool true)) 88)]
def F.D8.r25:=[
 Dd 2 (.mv (Ci 1))]
def F.D8.r26:=[
 Dd 90 (.bin .add 77 (Ci 1)),
 Dm 77 90]
def F.D8.L2:ACode:=sr F.D8.r22 (.seq (.cond 78 (.skip) (.exit 4)) (.seq (.block 5 (sr F.D8.r23 (sr F.D8.r24 (.cond 89 (sr F.D8.r25 (.ret)) (.skip))))) (.region F.D8.r26)))
def F.D8.r27:=[
 Dd 91 (.bin .add 64 (Ci 1)),
 Dm 64 91]
def F.D8.L1:ACode:=sr F.D8.r17 (.seq (.cond 65 (.skip) (.exit 2)) (.seq (.block 3 (sr F.D8.r18 (.seq (sr F.D8.r19 (.cond 74 (sr F.D8.r20 (.ret)) (.skip))) (sr F.D8.r21 (.block 4 (.loop F.D8.L2)))))) (.region F.D8.r27)))
def F.D8.r28:=[
 Dd 2 (.mv (Ci 0))]
def F.D8.c:ACode:=sr F.D8.r0 (.seq (sr F.D8.r1 (.cond 13 (sr F.D8.r2 (.ret)) (.skip))) (.seq (sr F.D8.r3 (.cond 26 (sr F.D8.r4 (.ret)) (.skip))) (sr F.D8.r5 (.seq (sr F.D8.r6 (.cond 33 (sr F.D8.r7 (.ret)) (.skip))) (.seq (sr F.D8.r8 (.block 0 (.loop F.D8.L0))) (.seq (sr F.D8.r14 (.cond 60 (sr F.D8.r15 (.ret)) (.skip))) (.seq (sr F.D8.r16 (.block 2 (.loop F.D8.L1))) (sr F.D8.r28 (.ret)))))))))
def F.D8:AFunc:=⟨F.D8.c,[.tmp 2]⟩
end Go.Proofs.Ytmfkjilndpchbaa
