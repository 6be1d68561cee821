import Derived.Test.YtmfkjilndpchbaaI
namespace Go.Proofs.Ytmfkjilndpchbaa
open Go Go.Ab
def F.D2.r0:=[
 Dd 1 (.box 0),
 Dd 2 (.alloc [.int .i64 0,.int .i64 0,.int .i64 0,.slice none 0 0]),
 Dd 3 (.mv (Ci 0))]
def F.D2.r1:=[
 Dd 11 (.load 3 true 1),
 Dd 12 (.call I.D8 [11]),
 Dm 4 12]
def F.D2.r2:=[
 Dm 13 4,
 Dd 14 (.bin .neq 13 (Ci 0))]
def F.D2.r3:=[
 Dd 15 (.build [.int .i64 0,.int .i64 0,.int .i64 0,.slice none 0 0] []),
 Dm 16 4,
 De (.store 4 2 15),
 Dm 3 16]
def F.D2.r4:=[
 Dd 17 (.faddr 1 1),
 Dd 18 (.load 1 false 17),
 Dd 19 (.len 18),
 Dd 20 (.bin .gtr 19 (Ci 10)),
 Dm 21 20,
 ⟨some 22,.faddr 2 1,(some (21,false)),[]⟩,
 ⟨some 23,.load 1 false 22,(some (21,false)),[]⟩,
 ⟨some 24,.idxs 1 23 (Ci 0),(some (21,false)),[]⟩,
 ⟨some 25,.load 1 false 24,(some (21,false)),[]⟩,
 ⟨some 26,.len 25,(some (21,false)),[]⟩,
 ⟨some 27,.bin .gtr 26 (Ci 8),(some (21,false)),[]⟩,
 Dd 28 (.pick 21 (.const (.bool true)) 27)]
def F.D2.r5:=[
 Dd 29 (.build [.int .i64 0,.int .i64 0,.int .i64 0,.slice none 0 0] []),
 De (.store 4 2 29),
 Dd 3 (.mv (Ci 2))]
def F.D2.r6:=[
 Dd 30 (.faddr 2 1),
 Dd 31 (.load 1 false 30),
 Dd 32 (.idxs 1 31 (Ci 0)),
 Dd 33 (.load 1 false 32),
 Dd 34 (.len 33),
 Dd 35 (.faddr 1 1),
 Dd 36 (.load 1 false 35),
 Dd 37 (.len 36),
 Dd 38 (.faddr 0 1),
 Dd 39 (.load 1 false 38),
 Dd 40 (.build [.int .i64 0,.int .i64 0,.int .i64 0,.slice none 0 0] [(0,1,34),(1,1,37),(2,1,39)]),
 Dd 5 (.alloc [.int .i64 0,.int .i64 0,.int .i64 0,.slice none 0 0]),
 De (.store 4 5 40)]
def F.D2.r7:=[
 Dd 41 (.faddr 2 1),
 Dd 42 (.load 1 false 41),
 Dd 43 (.len 42),
 Dd 44 (.mv (Ci 0))]
def F.D2.r8:=[
 Dd 45 (.bin .lss 44 43)]
def F.D2.r9:=[
 Dm 46 44,
 Dd 47 (.idxs 1 42 44),
 Dd 48 (.load 1 false 47),
 Dm 6 46,
 Dm 7 48]
def F.D2.r10:=[
 Dm 49 7,
 Dd 50 (.len 49),
 Dd 51 (.mv (Ci 0))]
def F.D2.r11:=[
 Dd 52 (.bin .lss 51 50)]
def F.D2.r12:=[
 Dm 53 51,
 Dd 54 (.idxs 1 49 51),
 Dd 55 (.load 1 false 54),
 Dm 8 53,
 Dm 9 55]
def F.D2.r13:=[
 Dm 56 9,
 Dd 57 (.bin .geq 56 (Ci 0))]
def F.D2.r14:=[
 Dd 58 (.faddr 3 5),
 Dd 59 (.load 1 false 58),
 Dm 60 6,
 Dm 61 8,
 Dd 62 (.build [.bool false,.int .i64 0] [(0,1,.const (.bool true)),(1,1,61)]),
 Dm 63 9,
 Dd 64 (.build [.bool false,.int .i64 0] [(1,1,63)]),
 Dd 65 (.bslice 2 2 [.bool false,.int .i64 0,.bool false,.int .i64 0] [(0,2,62),(2,2,64)]),
 Dd 66 (.build [.int .i64 0,.slice none 0 0] [(0,1,60),(1,1,65)]),
 Dd 67 (.bslice 2 1 [.int .i64 0,.slice none 0 0] [(0,2,66)]),
 Dd 68 (.append 2 32 59 67),
 Dd 69 (.faddr 3 5),
 De (.store 1 69 68)]
def F.D2.r15:=[
 Dd 70 (.bin .add 51 (Ci 1)),
 Dm 51 70]
def F.D2.L1:ACode:=sr F.D2.r11 (.seq (.cond 52 (.skip) (.exit 2)) (.seq (.block 3 (sr F.D2.r12 (sr F.D2.r13 (.cond 57 (.region F.D2.r14) (.skip))))) (.region F.D2.r15)))
def F.D2.r16:=[
 Dd 71 (.faddr 1 1),
 Dd 72 (.load 1 false 71),
 Dm 73 6,
 Dd 74 (.idxs 1 72 73),
 Dd 75 (.load 1 false 74),
 Dd 76 (.bin .geq 75 (Ci 0))]
def F.D2.r17:=[
 Dd 77 (.faddr 3 5),
 Dd 78 (.load 1 false 77),
 Dm 79 6,
 Dd 80 (.build [.int .i64 0,.slice none 0 0] [(0,1,79)]),
 Dd 81 (.bslice 2 1 [.int .i64 0,.slice none 0 0] [(0,2,80)]),
 Dd 82 (.append 2 32 78 81),
 Dd 83 (.faddr 3 5),
 De (.store 1 83 82)]
def F.D2.r18:=[
 Dd 84 (.bin .add 44 (Ci 1)),
 Dm 44 84]
def F.D2.L0:ACode:=sr F.D2.r8 (.seq (.cond 45 (.skip) (.exit 0)) (.seq (.block 1 (sr F.D2.r9 (.seq (sr F.D2.r10 (.block 2 (.loop F.D2.L1))) (sr F.D2.r16 (.cond 76 (.region F.D2.r17) (.skip)))))) (.region F.D2.r18)))
def F.D2.r19:=[
 Dd 85 (.load 4 true 5),
 Dd 86 (.call I.E1 [85]),
 Dm 10 86]
def F.D2.r20:=[
 Dm 87 10,
 Dd 88 (.bin .neq 87 (Ci 0))]
def F.D2.r21:=[
 Dd 89 (.build [.int .i64 0,.int .i64 0,.int .i64 0,.slice none 0 0] []),
 Dm 90 10,
 De (.store 4 2 89),
 Dm 3 90]
def F.D2.r22:=[
 Dd 91 (.load 4 true 5),
 De (.store 4 2 91),
 Dd 3 (.mv (Ci 0))]
def F.D2.c:ACode:=sr F.D2.r0 (.seq (sr F.D2.r1 (sr F.D2.r2 (.cond 14 (sr F.D2.r3 (.ret)) (.skip)))) (.seq (sr F.D2.r4 (.cond 28 (sr F.D2.r5 (.ret)) (.skip))) (.seq (.draw F.D2.r6 []) (.seq (sr F.D2.r7 (.block 0 (.loop F.D2.L0))) (.seq (sr F.D2.r19 (sr F.D2.r20 (.cond 88 (sr F.D2.r21 (.ret)) (.skip)))) (sr F.D2.r22 (.ret)))))))
def F.D2:AFunc:=⟨F.D2.c,[.cell 2 4 true,.tmp 3]⟩
end Go.Proofs.Ytmfkjilndpchbaa
