import Derived.Test.YtmfkjilndpchbaaI
namespace Go.Proofs.Ytmfkjilndpchbaa
open Go Go.Ab
def F.F5.r0:=[
 Dd 2 (.alloc [.int .i64 0,.slice none 0 0,.slice none 0 0])]
def F.F5.r1:=[
 Dm 8 0,
 Dd 9 (.build [.slice none 0 0] [(0,1,8)]),
 Dd 10 (.box 9),
 Dm 3 10]
def F.F5.r2:=[
 Dm 11 3,
 Dd 12 (.call I.D7 [11,.const (.int .i64 6)]),
 Dd 13 (.bin .add (Ci 1) 12),
 Dm 14 3,
 Dd 15 (.call I.D7 [14,.const (.int .i64 3)]),
 Dd 16 (.bin .add (Ci 1) 15),
 Dm 4 13,
 Dm 5 16]
def F.F5.r3:=[
 Dm 17 3,
 Dm 18 4,
 Dd 19 (.call I.D7 [17,18]),
 Dd 20 (.build [.int .i64 0,.slice none 0 0,.slice none 0 0] [(0,1,19)]),
 Dd 6 (.alloc [.int .i64 0,.slice none 0 0,.slice none 0 0]),
 De (.store 3 6 20)]
def F.F5.r4:=[
 Dm 21 4,
 Dd 22 (.mv (Ci 0))]
def F.F5.r5:=[
 Dd 23 (.bin .lss 22 21)]
def F.F5.r6:=[
 Dd 24 (.faddr 1 6),
 Dd 25 (.load 1 false 24),
 Dm 26 3,
 Dd 27 (.call I.D7 [26,.const (.int .i64 3)]),
 Dd 28 (.bin .sub 27 (Ci 1)),
 Dd 29 (.bslice 1 1 [.int .i64 0] [(0,1,28)]),
 Dd 30 (.append 1 8 25 29),
 Dd 31 (.faddr 1 6),
 De (.store 1 31 30)]
def F.F5.r7:=[
 Dd 7 (.mv (.const (.slice none 0 0)))]
def F.F5.r8:=[
 Dm 32 5,
 Dd 33 (.mv (Ci 0))]
def F.F5.r9:=[
 Dd 34 (.bin .lss 33 32)]
def F.F5.r10:=[
 Dm 35 7,
 Dm 36 3,
 Dm 37 4,
 Dd 38 (.bin .add 37 (Ci 1)),
 Dd 39 (.call I.D7 [36,38]),
 Dd 40 (.bin .sub 39 (Ci 1)),
 Dd 41 (.bslice 1 1 [.int .i64 0] [(0,1,40)]),
 Dd 42 (.append 1 8 35 41),
 Dm 7 42]
def F.F5.r11:=[
 Dd 43 (.bin .add 33 (Ci 1)),
 Dm 33 43]
def F.F5.L1:ACode:=sr F.F5.r9 (.seq (.cond 34 (.skip) (.exit 2)) (.seq (.block 3 (.region F.F5.r10)) (.region F.F5.r11)))
def F.F5.r12:=[
 Dd 44 (.faddr 2 6),
 Dd 45 (.load 1 false 44),
 Dm 46 7,
 Dd 47 (.bslice 1 1 [.slice none 0 0] [(0,1,46)]),
 Dd 48 (.append 1 24 45 47),
 Dd 49 (.faddr 2 6),
 De (.store 1 49 48)]
def F.F5.r13:=[
 Dd 50 (.bin .add 22 (Ci 1)),
 Dm 22 50]
def F.F5.L0:ACode:=sr F.F5.r5 (.seq (.cond 23 (.skip) (.exit 0)) (.seq (.block 1 (.seq (.draw F.F5.r6 [(1,3)]) (sr F.F5.r7 (.seq (sr F.F5.r8 (.block 2 (.loop F.F5.L1))) (.region F.F5.r12))))) (.region F.F5.r13)))
def F.F5.r14:=[
 Dd 51 (.load 3 true 6),
 De (.store 3 2 51)]
def F.F5.c:ACode:=sr F.F5.r0 (sr F.F5.r1 (sr F.F5.r2 (sr F.F5.r3 (.seq (sr F.F5.r4 (.block 0 (.loop F.F5.L0))) (sr F.F5.r14 (.ret))))))
def F.F5:AFunc:=⟨F.F5.c,[.cell 2 3 true]⟩
def F.D7.r0:=[
 Dd 4 (.mv (Ci 0))]
def F.D7.r1:=[
 Dm 6 0,
 Dd 7 (.nilchk 6),
 Dd 8 (.faddr 0 7),
 Dd 9 (.load 1 false 8),
 Dd 10 (.len 9),
 Dd 11 (.bin .eql 10 (Ci 0))]
def F.D7.r2:=[
 Dd 4 (.mv (Ci 0))]
def F.D7.r3:=[
 Dm 12 0,
 Dd 13 (.nilchk 12),
 Dd 14 (.faddr 0 13),
 Dd 15 (.load 1 false 14),
 Dd 16 (.idxs 1 15 (Ci 0)),
 Dd 17 (.load 1 false 16),
 Dm 5 17]
def F.D7.r4:=[
 Dm 18 0,
 Dm 19 0,
 Dd 20 (.nilchk 19),
 Dd 21 (.faddr 0 20),
 Dd 22 (.load 1 false 21),
 Dd 23 (.slice 1 22 (some (Ci 1)) none),
 Dd 24 (.nilchk 18),
 Dd 25 (.faddr 0 24),
 De (.store 1 25 23)]
def F.D7.r5:=[
 Dm 26 5,
 Dm 27 1,
 Dd 28 (.call I.J3 [26,27]),
 Dm 4 28]
def F.D7.c:ACode:=sr F.D7.r0 (.seq (sr F.D7.r1 (.cond 11 (sr F.D7.r2 (.ret)) (.skip))) (sr F.D7.r3 (sr F.D7.r4 (sr F.D7.r5 (.ret)))))
def F.D7:AFunc:=⟨F.D7.c,[.tmp 4]⟩
def F.J3.r0:=[
 Dd 4 (.mv (Ci 0))]
def F.J3.r1:=[
 Dm 5 0,
 Dm 6 1,
 Dd 7 (.bin .rem 5 6),
 Dm 0 7]
def F.J3.r2:=[
 Dm 8 0,
 Dd 9 (.bin .lss 8 (Ci 0))]
def F.J3.r3:=[
 Dm 10 0,
 Dm 11 1,
 Dd 12 (.bin .add 10 11),
 Dm 0 12]
def F.J3.r4:=[
 Dm 13 0,
 Dm 4 13]
def F.J3.c:ACode:=sr F.J3.r0 (sr F.J3.r1 (.seq (sr F.J3.r2 (.cond 9 (.region F.J3.r3) (.skip))) (sr F.J3.r4 (.ret))))
def F.J3:AFunc:=⟨F.J3.c,[.tmp 4]⟩
end Go.Proofs.Ytmfkjilndpchbaa
