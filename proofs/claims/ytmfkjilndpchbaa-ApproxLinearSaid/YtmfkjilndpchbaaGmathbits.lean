import Derived.Test.YtmfkjilndpchbaaI
namespace Go.Proofs.Ytmfkjilndpchbaa
open Go Go.Ab
def F.J6.r0:=[
 Dd 4 (.mv (.const (.int .u64 0))),
 Dd 5 (.mv (.const (.int .u64 0)))]
def F.J6.r1:=[
 Dm 11 0,
 Dd 12 (.conv .u32 11),
 Dm 13 1,
 Dd 14 (.conv .u32 13),
 Dd 15 (.call I.K1 [12,14]),
 Dm 10 15,
 Dd 16 (.extract 10 0),
 Dd 17 (.extract 10 1),
 Dm 6 16,
 Dm 7 17]
def F.J6.r2:=[
 Dm 18 6,
 Dd 19 (.conv .u64 18),
 Dm 20 7,
 Dd 21 (.conv .u64 20),
 Dm 4 19,
 Dm 5 21]
def F.J6.r3:=[
 Dm 23 0,
 Dm 24 1,
 Dd 25 (.call I.F9 [23,24]),
 Dm 22 25,
 Dd 26 (.extract 22 0),
 Dd 27 (.extract 22 1),
 Dm 8 26,
 Dm 9 27]
def F.J6.r4:=[
 Dm 28 8,
 Dm 29 9,
 Dm 4 28,
 Dm 5 29]
def F.J6.c:ACode:=sr F.J6.r0 (.seq (.cond (.const (.bool false)) (sr F.J6.r1 (sr F.J6.r2 (.ret))) (.skip)) (sr F.J6.r3 (sr F.J6.r4 (.ret))))
def F.J6:AFunc:=⟨F.J6.c,[.tmp 4,.tmp 5]⟩
def F.J2.r0:=[
 Dd 2 (.mv (Ci 0))]
def F.J2.r1:=[
 Dm 3 0,
 Dd 4 (.conv .u32 3),
 Dd 5 (.call I.J1 [4]),
 Dm 2 5]
def F.J2.r2:=[
 Dm 6 0,
 Dd 7 (.call I.G4 [6]),
 Dm 2 7]
def F.J2.c:ACode:=sr F.J2.r0 (.seq (.cond (.const (.bool false)) (sr F.J2.r1 (.ret)) (.skip)) (sr F.J2.r2 (.ret)))
def F.J2:AFunc:=⟨F.J2.c,[.tmp 2]⟩
def F.K1.r0:=[
 Dd 4 (.mv (.const (.int .u32 0))),
 Dd 5 (.mv (.const (.int .u32 0)))]
def F.K1.r1:=[
 Dm 7 0,
 Dd 8 (.conv .u64 7),
 Dm 9 1,
 Dd 10 (.conv .u64 9),
 Dd 11 (.bin .mul 8 10),
 Dm 6 11]
def F.K1.r2:=[
 Dm 12 6,
 Dd 13 (.bin .shr 12 (.const (.int .u64 32))),
 Dd 14 (.conv .u32 13),
 Dm 15 6,
 Dd 16 (.conv .u32 15),
 Dm 4 14,
 Dm 5 16]
def F.K1.c:ACode:=sr F.K1.r0 (sr F.K1.r1 (sr F.K1.r2 (.ret)))
def F.K1:AFunc:=⟨F.K1.c,[.tmp 4,.tmp 5]⟩
def F.F9.r0:=[
 Dd 4 (.mv (.const (.int .u64 0))),
 Dd 5 (.mv (.const (.int .u64 0)))]
def F.F9.r1:=[
 Dm 14 0,
 Dd 15 (.bin .and 14 (.const (.int .u64 4294967295))),
 Dm 6 15]
def F.F9.r2:=[
 Dm 16 0,
 Dd 17 (.bin .shr 16 (.const (.int .u64 32))),
 Dm 7 17]
def F.F9.r3:=[
 Dm 18 1,
 Dd 19 (.bin .and 18 (.const (.int .u64 4294967295))),
 Dm 8 19]
def F.F9.r4:=[
 Dm 20 1,
 Dd 21 (.bin .shr 20 (.const (.int .u64 32))),
 Dm 9 21]
def F.F9.r5:=[
 Dm 22 6,
 Dm 23 8,
 Dd 24 (.bin .mul 22 23),
 Dm 10 24]
def F.F9.r6:=[
 Dm 25 7,
 Dm 26 8,
 Dd 27 (.bin .mul 25 26),
 Dm 28 10,
 Dd 29 (.bin .shr 28 (.const (.int .u64 32))),
 Dd 30 (.bin .add 27 29),
 Dm 11 30]
def F.F9.r7:=[
 Dm 31 11,
 Dd 32 (.bin .and 31 (.const (.int .u64 4294967295))),
 Dm 12 32]
def F.F9.r8:=[
 Dm 33 11,
 Dd 34 (.bin .shr 33 (.const (.int .u64 32))),
 Dm 13 34]
def F.F9.r9:=[
 Dm 35 12,
 Dm 36 6,
 Dm 37 9,
 Dd 38 (.bin .mul 36 37),
 Dd 39 (.bin .add 35 38),
 Dm 12 39]
def F.F9.r10:=[
 Dm 40 7,
 Dm 41 9,
 Dd 42 (.bin .mul 40 41),
 Dm 43 13,
 Dd 44 (.bin .add 42 43),
 Dm 45 12,
 Dd 46 (.bin .shr 45 (.const (.int .u64 32))),
 Dd 47 (.bin .add 44 46),
 Dm 4 47]
def F.F9.r11:=[
 Dm 48 0,
 Dm 49 1,
 Dd 50 (.bin .mul 48 49),
 Dm 5 50]
def F.F9.c:ACode:=sr F.F9.r0 (sr F.F9.r1 (sr F.F9.r2 (sr F.F9.r3 (sr F.F9.r4 (sr F.F9.r5 (sr F.F9.r6 (sr F.F9.r7 (sr F.F9.r8 (sr F.F9.r9 (sr F.F9.r10 (sr F.F9.r11 (.ret))))))))))))
def F.F9:AFunc:=⟨F.F9.c,[.tmp 4,.tmp 5]⟩
def F.J1.r0:=[
 Dd 2 (.mv (Ci 0))]
def F.J1.r1:=[
 Dm 3 0,
 Dd 4 (.bin .geq 3 (.const (.int .u32 65536)))]
def F.J1.r2:=[
 Dm 5 0,
 Dd 6 (.bin .shr 5 (.const (.int .u64 16))),
 Dm 0 6]
def F.J1.r3:=[
 Dd 2 (.mv (Ci 16))]
def F.J1.r4:=[
 Dm 7 0,
 Dd 8 (.bin .geq 7 (.const (.int .u32 256)))]
def F.J1.r5:=[
 Dm 9 0,
 Dd 10 (.bin .shr 9 (.const (.int .u64 8))),
 Dm 0 10]
def F.J1.r6:=[
 Dm 11 2,
 Dd 12 (.bin .add 11 (Ci 8)),
 Dm 2 12]
def F.J1.r7:=[
 Dm 13 2,
 Dm 14 0,
 Dd 15 (.conv .u8 14),
 Dd 16 (.idxstr (.const (.string ⟨#[0,1,2,2,3,3,3,3,4,4,4,4,4,4,4,4,5,5,5,5,5,5,5,5,5,5,5,5,5,5,5,5,6,6,6,6,6,6,6,6,6,6,6,6,6,6,6,6,6,6,6,6,6,6,6,6,6,6,6,6,6,6,6,6,7,7,7,7,7,7,7,7,7,7,7,7,7,7,7,7,7,7,7,7,7,7,7,7,7,7,7,7,7,7,7,7,7,7,7,7,7,7,7,7,7,7,7,7,7,7,7,7,7,7,7,7,7,7,7,7,7,7,7,7,7,7,7,7,8,8,8,8,8,8,8,8,8,8,8,8,8,8,8,8,8,8,8,8,8,8,8,8,8,8,8,8,8,8,8,8,8,8,8,8,8,8,8,8,8,8,8,8,8,8,8,8,8,8,8,8,8,8,8,8,8,8,8,8,8,8,8,8,8,8,8,8,8,8,8,8,8,8,8,8,8,8,8,8,8,8,8,8,8,8,8,8,8,8,8,8,8,8,8,8,8,8,8,8,8,8,8,8,8,8,8,8,8,8,8,8,8,8,8,8,8,8,8,8,8,8,8,8,8,8,8,8]⟩)) 15),
 Dd 17 (.conv .i64 16),
 Dd 18 (.bin .add 13 17),
 Dm 2 18]
def F.J1.c:ACode:=sr F.J1.r0 (.seq (sr F.J1.r1 (.cond 4 (sr F.J1.r2 (.region F.J1.r3)) (.skip))) (.seq (sr F.J1.r4 (.cond 8 (sr F.J1.r5 (.region F.J1.r6)) (.skip))) (sr F.J1.r7 (.ret))))
def F.J1:AFunc:=⟨F.J1.c,[.tmp 2]⟩
def F.G4.r0:=[
 Dd 2 (.mv (Ci 0))]
def F.G4.r1:=[
 Dm 3 0,
 Dd 4 (.bin .geq 3 (.const (.int .u64 4294967296)))]
def F.G4.r2:=[
 Dm 5 0,
 Dd 6 (.bin .shr 5 (.const (.int .u64 32))),
 Dm 0 6]
def F.G4.r3:=[
 Dd 2 (.mv (Ci 32))]
def F.G4.r4:=[
 Dm 7 0,
 Dd 8 (.bin .geq 7 (.const (.int .u64 65536)))]
def F.G4.r5:=[
 Dm 9 0,
 Dd 10 (.bin .shr 9 (.const (.int .u64 16))),
 Dm 0 10]
def F.G4.r6:=[
 Dm 11 2,
 Dd 12 (.bin .add 11 (Ci 16)),
 Dm 2 12]
def F.G4.r7:=[
 Dm 13 0,
 Dd 14 (.bin .geq 13 (.const (.int .u64 256)))]
def F.G4.r8:=[
 Dm 15 0,
 Dd 16 (.bin .shr 15 (.const (.int .u64 8))),
 Dm 0 16]
def F.G4.r9:=[
 Dm 17 2,
 Dd 18 (.bin .add 17 (Ci 8)),
 Dm 2 18]
def F.G4.r10:=[
 Dm 19 2,
 Dm 20 0,
 Dd 21 (.conv .u8 20),
 Dd 22 (.idxstr (.const (.string ⟨#[0,1,2,2,3,3,3,3,4,4,4,4,4,4,4,4,5,5,5,5,5,5,5,5,5,5,5,5,5,5,5,5,6,6,6,6,6,6,6,6,6,6,6,6,6,6,6,6,6,6,6,6,6,6,6,6,6,6,6,6,6,6,6,6,7,7,7,7,7,7,7,7,7,7,7,7,7,7,7,7,7,7,7,7,7,7,7,7,7,7,7,7,7,7,7,7,7,7,7,7,7,7,7,7,7,7,7,7,7,7,7,7,7,7,7,7,7,7,7,7,7,7,7,7,7,7,7,7,8,8,8,8,8,8,8,8,8,8,8,8,8,8,8,8,8,8,8,8,8,8,8,8,8,8,8,8,8,8,8,8,8,8,8,8,8,8,8,8,8,8,8,8,8,8,8,8,8,8,8,8,8,8,8,8,8,8,8,8,8,8,8,8,8,8,8,8,8,8,8,8,8,8,8,8,8,8,8,8,8,8,8,8,8,8,8,8,8,8,8,8,8,8,8,8,8,8,8,8,8,8,8,8,8,8,8,8,8,8,8,8,8,8,8,8,8,8,8,8,8,8,8,8,8,8,8,8]⟩)) 21),
 Dd 23 (.conv .i64 22),
 Dd 24 (.bin .add 19 23),
 Dm 2 24]
def F.G4.c:ACode:=sr F.G4.r0 (.seq (sr F.G4.r1 (.cond 4 (sr F.G4.r2 (.region F.G4.r3)) (.skip))) (.seq (sr F.G4.r4 (.cond 8 (sr F.G4.r5 (.region F.G4.r6)) (.skip))) (.seq (sr F.G4.r7 (.cond 14 (sr F.G4.r8 (.region F.G4.r9)) (.skip))) (sr F.G4.r10 (.ret)))))
def F.G4:AFunc:=⟨F.G4.c,[.tmp 2]⟩
end Go.Proofs.Ytmfkjilndpchbaa
