import Derived.Test.YtmfkjilndpchbaaI
namespace Go.Proofs.Ytmfkjilndpchbaa
open Go Go.Ab
def F.F1.r0:=[
 Dd 4 (.mv (Ci 0))]
def F.F1.r1:=[
 Dm 7 0,
 Dd 8 (.call I.G8 [7]),
 Dm 5 8]
def F.F1.r2:=[
 Dm 9 1,
 Dd 10 (.call I.G8 [9]),
 Dm 6 10]
def F.F1.r3:=[
 Dm 11 5]
def F.F1.r4:=[
 Dm 12 6]
def F.F1.r5:=[
 Dd 4 (.mv (Ci 0))]
def F.F1.r6:=[
 Dd 4 (.mv (Ci (-1)))]
def F.F1.r7:=[
 Dm 13 6]
def F.F1.r8:=[
 Dd 4 (.mv (Ci 1))]
def F.F1.r9:=[
 Dm 14 0,
 Dm 15 1,
 Dd 16 (.bin .lss 14 15)]
def F.F1.r10:=[
 Dd 4 (.mv (Ci (-1)))]
def F.F1.r11:=[
 Dm 17 0,
 Dm 18 1,
 Dd 19 (.bin .gtr 17 18)]
def F.F1.r12:=[
 Dd 4 (.mv (Ci 1))]
def F.F1.r13:=[
 Dd 4 (.mv (Ci 0))]
def F.F1.c:ACode:=sr F.F1.r0 (sr F.F1.r1 (sr F.F1.r2 (.seq (sr F.F1.r3 (.cond 11 (.seq (sr F.F1.r4 (.cond 12 (sr F.F1.r5 (.ret)) (.skip))) (sr F.F1.r6 (.ret))) (.skip))) (.seq (sr F.F1.r7 (.cond 13 (sr F.F1.r8 (.ret)) (.skip))) (.seq (sr F.F1.r9 (.cond 16 (sr F.F1.r10 (.ret)) (.skip))) (.seq (sr F.F1.r11 (.cond 19 (sr F.F1.r12 (.ret)) (.skip))) (sr F.F1.r13 (.ret))))))))
def F.F1:AFunc:=⟨F.F1.c,[.tmp 4]⟩
def F.G8.r0:=[
 Dd 2 (.mv (.const (.bool false)))]
def F.G8.r1:=[
 Dm 3 0,
 Dm 4 0,
 Dd 5 (.bin .neq 3 4),
 Dm 2 5]
def F.G8.c:ACode:=sr F.G8.r0 (sr F.G8.r1 (.ret))
def F.G8:AFunc:=⟨F.G8.c,[.tmp 2]⟩
def F.D4.r0:=[
 Dd 4 (.mv (.const (.bool false)))]
def F.D4.r1:=[
 Dm 5 0,
 Dd 6 (.call I.G8 [5]),
 Dm 7 6,
 ⟨some 8,.mv 1,(some (7,true)),[]⟩,
 ⟨some 9,.call I.G8 [8],(some (7,true)),[]⟩,
 ⟨some 10,.un .not 9,(some (7,true)),[]⟩,
 Dd 11 (.pick 7 10 (.const (.bool false))),
 Dm 12 11,
 ⟨some 13,.mv 0,(some (12,false)),[]⟩,
 ⟨some 14,.mv 1,(some (12,false)),[]⟩,
 ⟨some 15,.bin .lss 13 14,(some (12,false)),[]⟩,
 Dd 16 (.pick 12 (.const (.bool true)) 15),
 Dm 4 16]
def F.D4.c:ACode:=sr F.D4.r0 (sr F.D4.r1 (.ret))
def F.D4:AFunc:=⟨F.D4.c,[.tmp 4]⟩
end Go.Proofs.Ytmfkjilndpchbaa
