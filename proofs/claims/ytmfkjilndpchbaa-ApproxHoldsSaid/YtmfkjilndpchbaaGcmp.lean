import Derived.Test.YtmfkjilndpchbaaI
namespace Go.Proofs.Ytmfkjilndpchbaa
open Go Go.Ab
def F.E9.r0:=[
 Dd 4 (.mv (Ci 0))]
def F.E9.r1:=[
 Dm 7 0,
 Dd 8 (.call I.G9 [7]),
 Dm 5 8]
def F.E9.r2:=[
 Dm 9 1,
 Dd 10 (.call I.G9 [9]),
 Dm 6 10]
def F.E9.r3:=[
 Dm 11 5]
def F.E9.r4:=[
 Dm 12 6]
def F.E9.r5:=[
 Dd 4 (.mv (Ci 0))]
def F.E9.r6:=[
 Dd 4 (.mv (Ci (-1)))]
def F.E9.r7:=[
 Dm 13 6]
def F.E9.r8:=[
 Dd 4 (.mv (Ci 1))]
def F.E9.r9:=[
 Dm 14 0,
 Dm 15 1,
 Dd 16 (.bin .lss 14 15)]
def F.E9.r10:=[
 Dd 4 (.mv (Ci (-1)))]
def F.E9.r11:=[
 Dm 17 0,
 Dm 18 1,
 Dd 19 (.bin .gtr 17 18)]
def F.E9.r12:=[
 Dd 4 (.mv (Ci 1))]
def F.E9.r13:=[
 Dd 4 (.mv (Ci 0))]
def F.E9.c:ACode:=sr F.E9.r0 (sr F.E9.r1 (sr F.E9.r2 (.seq (sr F.E9.r3 (.cond 11 (.seq (sr F.E9.r4 (.cond 12 (sr F.E9.r5 (.ret)) (.skip))) (sr F.E9.r6 (.ret))) (.skip))) (.seq (sr F.E9.r7 (.cond 13 (sr F.E9.r8 (.ret)) (.skip))) (.seq (sr F.E9.r9 (.cond 16 (sr F.E9.r10 (.ret)) (.skip))) (.seq (sr F.E9.r11 (.cond 19 (sr F.E9.r12 (.ret)) (.skip))) (sr F.E9.r13 (.ret))))))))
def F.E9:AFunc:=⟨F.E9.c,[.tmp 4]⟩
def F.G9.r0:=[
 Dd 2 (.mv (.const (.bool false)))]
def F.G9.r1:=[
 Dm 3 0,
 Dm 4 0,
 Dd 5 (.bin .neq 3 4),
 Dm 2 5]
def F.G9.c:ACode:=sr F.G9.r0 (sr F.G9.r1 (.ret))
def F.G9:AFunc:=⟨F.G9.c,[.tmp 2]⟩
def F.D5.r0:=[
 Dd 4 (.mv (.const (.bool false)))]
def F.D5.r1:=[
 Dm 5 0,
 Dd 6 (.call I.G9 [5]),
 Dm 7 6,
 ⟨some 8,.mv 1,(some (7,true)),[]⟩,
 ⟨some 9,.call I.G9 [8],(some (7,true)),[]⟩,
 ⟨some 10,.un .not 9,(some (7,true)),[]⟩,
 Dd 11 (.pick 7 10 (.const (.bool false))),
 Dm 12 11,
 ⟨some 13,.mv 0,(some (12,false)),[]⟩,
 ⟨some 14,.mv 1,(some (12,false)),[]⟩,
 ⟨some 15,.bin .lss 13 14,(some (12,false)),[]⟩,
 Dd 16 (.pick 12 (.const (.bool true)) 15),
 Dm 4 16]
def F.D5.c:ACode:=sr F.D5.r0 (sr F.D5.r1 (.ret))
def F.D5:AFunc:=⟨F.D5.c,[.tmp 4]⟩
end Go.Proofs.Ytmfkjilndpchbaa
