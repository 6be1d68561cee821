import Derived.Test.YtmfkjilndpchbaaI
namespace Go.Proofs.Ytmfkjilndpchbaa
open Go Go.Ab
def F.E4.r0:=[
 Dd 2 (.box 0),
 Dd 3 (.box 1),
 Dd 4 (.mv (.const (.slice none 0 0))),
 Dd 5 (.mv (.const (.bool false)))]
def F.E4.r1:=[
 Dd 13 (.load 3 true 2),
 Dd 14 (.call I.D8 [13]),
 Dd 15 (.bin .neq 14 (Ci 0)),
 Dm 16 15,
 ⟨some 17,.load 3 true 3,(some (16,false)),[]⟩,
 ⟨some 18,.call I.D8 [17],(some (16,false)),[]⟩,
 ⟨some 19,.bin .neq 18 (Ci 0),(some (16,false)),[]⟩,
 Dd 20 (.pick 16 (.const (.bool true)) 19),
 Dm 21 20,
 ⟨some 22,.faddr 2 2,(some (21,false)),[]⟩,
 ⟨some 23,.load 1 false 22,(some (21,false)),[]⟩,
 ⟨some 24,.idxs 1 23 (Ci 0),(some (21,false)),[]⟩,
 ⟨some 25,.load 1 false 24,(some (21,false)),[]⟩,
 ⟨some 26,.len 25,(some (21,false)),[]⟩,
 ⟨some 27,.faddr 2 3,(some (21,false)),[]⟩,
 ⟨some 28,.load 1 false 27,(some (21,false)),[]⟩,
 ⟨some 29,.idxs 1 28 (Ci 0),(some (21,false)),[]⟩,
 ⟨some 30,.load 1 false 29,(some (21,false)),[]⟩,
 ⟨some 31,.len 30,(some (21,false)),[]⟩,
 ⟨some 32,.bin .neq 26 31,(some (21,false)),[]⟩,
 Dd 33 (.pick 21 (.const (.bool true)) 32)]
def F.E4.r2:=[
 Dd 4 (.mv (.const (.slice none 0 0))),
 Dd 5 (.mv (.const (.bool false)))]
def F.E4.r3:=[
 Dd 34 (.faddr 0 2),
 Dd 35 (.load 1 false 34),
 Dd 36 (.faddr 0 3),
 Dd 37 (.load 1 false 36),
 Dd 38 (.build [.int .i64 0,.int .i64 0,.int .i64 0,.int .i64 0] [(0,1,35),(1,1,37),(2,1,.const (.int .i64 (-1))),(3,1,.const (.int .i64 0))]),
 Dd 39 (.bslice 4 1 [.int .i64 0,.int .i64 0,.int .i64 0,.int .i64 0] [(0,4,38)]),
 Dm 6 39]
def F.E4.r4:=[
 Dd 40 (.mkmap),
 Dd 41 (.faddr 0 2),
 Dd 42 (.load 1 false 41),
 Dd 43 (.faddr 0 3),
 Dd 44 (.load 1 false 43),
 Dd 45 (.build [.int .i64 0,.int .i64 0] [(0,1,42),(1,1,44)]),
 De (.mset (.ints 2) 40 45 (.const (.bool true))),
 Dm 46 40,
 Dm 7 46]
def F.E4.r5:=[
 Dd 8 (.mv (Ci 0))]
def F.E4.r6:=[
 Dm 47 8,
 Dm 48 6,
 Dd 49 (.len 48),
 Dd 50 (.bin .lss 47 49)]
def F.E4.r8:=[
 Dm 53 6,
 Dm 54 8,
 Dd 55 (.idxs 4 53 54),
 Dd 56 (.load 4 true 55),
 Dd 9 (.alloc [.int .i64 0,.int .i64 0,.int .i64 0,.int .i64 0]),
 De (.store 4 9 56)]
def F.E4.r9:=[
 Dd 57 (.faddr 0 9),
 Dd 58 (.load 1 false 57),
 Dd 59 (.bin .geq 58 (Ci 0)),
 Dm 60 59,
 ⟨some 61,.faddr 1 2,(some (60,true)),[]⟩,
 ⟨some 62,.load 1 false 61,(some (60,true)),[]⟩,
 ⟨some 63,.faddr 0 9,(some (60,true)),[]⟩,
 ⟨some 64,.load 1 false 63,(some (60,true)),[]⟩,
 ⟨some 65,.idxs 1 62 64,(some (60,true)),[]⟩,
 ⟨some 66,.load 1 false 65,(some (60,true)),[]⟩,
 ⟨some 67,.bin .geq 66 (Ci 0),(some (60,true)),[]⟩,
 Dd 68 (.pick 60 67 (.const (.bool false))),
 Dd 69 (.faddr 1 9),
 Dd 70 (.load 1 false 69),
 Dd 71 (.bin .geq 70 (Ci 0)),
 Dm 72 71,
 ⟨some 73,.faddr 1 3,(some (72,true)),[]⟩,
 ⟨some 74,.load 1 false 73,(some (72,true)),[]⟩,
 ⟨some 75,.faddr 1 9,(some (72,true)),[]⟩,
 ⟨some 76,.load 1 false 75,(some (72,true)),[]⟩,
 ⟨some 77,.idxs 1 74 76,(some (72,true)),[]⟩,
 ⟨some 78,.load 1 false 77,(some (72,true)),[]⟩,
 ⟨some 79,.bin .geq 78 (Ci 0),(some (72,true)),[]⟩,
 Dd 80 (.pick 72 79 (.const (.bool false))),
 Dd 81 (.eq true .bool 68 80)]
def F.E4.r10:=[
 Dm 82 6,
 Dm 83 8,
 Dd 84 (.call I.K2 [82,83]),
 Dm 4 84,
 Dd 5 (.mv (.const (.bool true)))]
def F.E4.r11:=[
 Dd 85 (.faddr 2 2),
 Dd 86 (.load 1 false 85),
 Dd 87 (.idxs 1 86 (Ci 0)),
 Dd 88 (.load 1 false 87),
 Dd 89 (.len 88),
 Dd 90 (.mv (Ci 0))]
def F.E4.r12:=[
 Dd 91 (.bin .lss 90 89)]
def F.E4.r13:=[
 Dm 92 90,
 Dm 10 92]
def F.E4.r14:=[
 Dd 93 (.load 3 true 2),
 Dd 94 (.faddr 0 9),
 Dd 95 (.load 1 false 94),
 Dm 96 10,
 Dd 97 (.call I.K0 [93,95,96]),
 Dd 98 (.load 3 true 3),
 Dd 99 (.faddr 1 9),
 Dd 100 (.load 1 false 99),
 Dm 101 10,
 Dd 102 (.call I.K0 [98,100,101]),
 Dm 103 8,
 Dm 104 10,
 Dd 105 (.build [.int .i64 0,.int .i64 0,.int .i64 0,.int .i64 0] [(0,1,97),(1,1,102),(2,1,103),(3,1,104)]),
 Dd 11 (.alloc [.int .i64 0,.int .i64 0,.int .i64 0,.int .i64 0]),
 De (.store 4 11 105)]
def F.E4.r15:=[
 Dd 106 (.faddr 0 11),
 Dd 107 (.load 1 false 106),
 Dd 108 (.faddr 1 11),
 Dd 109 (.load 1 false 108),
 Dd 110 (.build [.int .i64 0,.int .i64 0] [(0,1,107),(1,1,109)]),
 Dd 12 (.alloc [.int .i64 0,.int .i64 0]),
 De (.store 2 12 110)]
def F.E4.r16:=[
 Dm 111 7,
 Dd 112 (.load 2 true 12),
 Dd 113 (.mlook (.ints 2) (.bool false) false 111 112),
 Dd 114 (.un .not 113)]
def F.E4.r17:=[
 Dm 115 7,
 Dd 116 (.load 2 true 12),
 De (.mset (.ints 2) 115 116 (.const (.bool true)))]
def F.E4.r18:=[
 Dm 117 6,
 Dd 118 (.load 4 true 11),
 Dd 119 (.bslice 4 1 [.int .i64 0,.int .i64 0,.int .i64 0,.int .i64 0] [(0,4,118)]),
 Dd 120 (.append 4 32 117 119),
 Dm 6 120]
def F.E4.r19:=[
 Dd 121 (.bin .add 90 (Ci 1)),
 Dm 90 121]
def F.E4.L1:ACode:=sr F.E4.r12 (.seq (.cond 91 (.skip) (.exit 2)) (.seq (.block 3 (sr F.E4.r13 (.seq (.draw F.E4.r14 [(5,4),(7,4)]) (sr F.E4.r15 (sr F.E4.r16 (.cond 114 (sr F.E4.r17 (.region F.E4.r18)) (.skip))))))) (.region F.E4.r19)))
def F.E4.r7:=[
 Dm 51 8,
 Dd 52 (.bin .add 51 (Ci 1)),
 Dm 8 52]
def F.E4.L0:ACode:=.seq (sr F.E4.r6 (.cond 50 (.skip) (.exit 0))) (.seq (.block 1 (sr F.E4.r8 (.seq (.seq (.draw F.E4.r9 []) (.cond 81 (sr F.E4.r10 (.ret)) (.skip))) (sr F.E4.r11 (.block 2 (.loop F.E4.L1)))))) (.region F.E4.r7))
def F.E4.r20:=[
 Dd 4 (.mv (.const (.slice none 0 0))),
 Dd 5 (.mv (.const (.bool false)))]
def F.E4.c:ACode:=sr F.E4.r0 (.seq (.seq (.draw F.E4.r1 []) (.cond 33 (sr F.E4.r2 (.ret)) (.skip))) (sr F.E4.r3 (sr F.E4.r4 (.seq (sr F.E4.r5 (.block 0 (.loop F.E4.L0))) (sr F.E4.r20 (.ret))))))
def F.E4:AFunc:=⟨F.E4.c,[.tmp 4,.tmp 5]⟩
def F.K2.r0:=[
 Dd 4 (.mv (.const (.slice none 0 0)))]
def F.K2.r1:=[
 Dm 5 0,
 Dm 6 1,
 Dd 7 (.idxs 4 5 6),
 Dd 8 (.faddr 2 7),
 Dd 9 (.load 1 false 8),
 Dd 10 (.bin .lss 9 (Ci 0))]
def F.K2.r2:=[
 Dd 4 (.mv (.const (.slice none 0 0)))]
def F.K2.r3:=[
 Dm 11 0,
 Dm 12 0,
 Dm 13 1,
 Dd 14 (.idxs 4 12 13),
 Dd 15 (.faddr 2 14),
 Dd 16 (.load 1 false 15),
 Dd 17 (.call I.K2 [11,16]),
 Dm 18 0,
 Dm 19 1,
 Dd 20 (.idxs 4 18 19),
 Dd 21 (.faddr 3 20),
 Dd 22 (.load 1 false 21),
 Dd 23 (.bslice 1 1 [.int .i64 0] [(0,1,22)]),
 Dd 24 (.append 1 8 17 23),
 Dm 4 24]
def F.K2.c:ACode:=sr F.K2.r0 (.seq (sr F.K2.r1 (.cond 10 (sr F.K2.r2 (.ret)) (.skip))) (.seq (.draw F.K2.r3 [(11,6)]) (.ret)))
def F.K2:AFunc:=⟨F.K2.c,[.tmp 4]⟩
def F.K0.r0:=[
 Dd 3 (.box 0),
 Dd 6 (.mv (Ci 0))]
def F.K0.r1:=[
 Dm 7 1,
 Dd 8 (.bin .lss 7 (Ci 0))]
def F.K0.r2:=[
 Dd 6 (.mv (Ci (-1)))]
def F.K0.r3:=[
 Dd 9 (.faddr 2 3),
 Dd 10 (.load 1 false 9),
 Dm 11 1,
 Dd 12 (.idxs 1 10 11),
 Dd 13 (.load 1 false 12),
 Dm 14 2,
 Dd 15 (.idxs 1 13 14),
 Dd 16 (.load 1 false 15),
 Dm 6 16]
def F.K0.c:ACode:=sr F.K0.r0 (.seq (sr F.K0.r1 (.cond 8 (sr F.K0.r2 (.ret)) (.skip))) (sr F.K0.r3 (.ret)))
def F.K0:AFunc:=⟨F.K0.c,[.tmp 6]⟩
end Go.Proofs.Ytmfkjilndpchbaa
