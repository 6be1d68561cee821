import Derived.Test.YtmfkjilndpchbaaI
namespace Go.Proofs.Ytmfkjilndpchbaa
open Go Go.Ab
def F.K6.r0:=[
 Dd 1 (.box 0),
 Dd 2 (.mv (.const (.slice none 0 0)))]
def F.K6.r1:=[
 Dd 3 (.load 3 true 1),
 Dd 4 (.call I.J2 [.const (.slice none 0 0),3]),
 Dm 2 4]
def F.K6.c:ACode:=sr F.K6.r0 (sr F.K6.r1 (.ret))
def F.K6:AFunc:=⟨F.K6.c,[.tmp 2]⟩
def F.J2.r0:=[
 Dd 3 (.box 1),
 Dd 4 (.mv (.const (.slice none 0 0)))]
def F.J2.r1:=[
 Dd 7 (.load 3 true 3),
 Dd 8 (.call I.K7 [7])]
def F.J2.r2:=[
 Dm 9 0,
 Dd 10 (.faddr 1 3),
 Dd 11 (.load 1 false 10),
 Dd 12 (.bslice 1 1 [.int .i64 0] [(0,1,11)]),
 Dd 13 (.append 1 8 9 12),
 Dm 4 13]
def F.J2.r3:=[
 Dd 14 (.faddr 2 3),
 Dd 15 (.load 1 false 14),
 Dd 16 (.len 15),
 Dd 17 (.mv (Ci 0))]
def F.J2.r4:=[
 Dd 18 (.bin .lss 17 16)]
def F.J2.r5:=[
 Dd 19 (.idxs 3 15 17),
 Dd 20 (.load 3 true 19),
 Dd 6 (.alloc [.int .i64 0,.int .i64 0,.slice none 0 0]),
 De (.store 3 6 20)]
def F.J2.r6:=[
 Dm 21 0,
 Dd 22 (.load 3 true 6),
 Dd 23 (.call I.J2 [21,22]),
 Dm 0 23]
def F.J2.r7:=[
 Dd 24 (.bin .add 17 (Ci 1)),
 Dm 17 24]
def F.J2.L0:ACode:=sr F.J2.r4 (.seq (.cond 18 (.skip) (.exit 0)) (.seq (.block 1 (sr F.J2.r5 (.region F.J2.r6))) (.region F.J2.r7)))
def F.J2.r8:=[
 Dm 25 0,
 Dm 4 25]
def F.J2.c:ACode:=sr F.J2.r0 (.seq (sr F.J2.r1 (.cond 8 (sr F.J2.r2 (.ret)) (.skip))) (.seq (sr F.J2.r3 (.block 0 (.loop F.J2.L0))) (sr F.J2.r8 (.ret))))
def F.J2:AFunc:=⟨F.J2.c,[.tmp 4]⟩
def F.K7.r0:=[
 Dd 1 (.box 0),
 Dd 2 (.mv (.const (.bool false)))]
def F.K7.r1:=[
 Dd 3 (.faddr 0 1),
 Dd 4 (.load 1 false 3),
 Dd 5 (.bin .eql 4 (Ci (-1))),
 Dm 2 5]
def F.K7.c:ACode:=sr F.K7.r0 (sr F.K7.r1 (.ret))
def F.K7:AFunc:=⟨F.K7.c,[.tmp 2]⟩
end Go.Proofs.Ytmfkjilndpchbaa
