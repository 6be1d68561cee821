import Derived.Test.YtmfkjilndpchbaaI
namespace Go.Proofs.Ytmfkjilndpchbaa
open Go Go.Ab
def F.D3.r0:=[
 Dd 2 (.mv (.const (.bool false)))]
def F.D3.r1:=[
 Dm 14 0,
 Dd 15 (.call I.F5 [14]),
 Dd 3 (.alloc [.int .i64 0,.slice none 0 0,.slice none 0 0]),
 De (.store 3 3 15)]
def F.D3.r2:=[
 Dd 17 (.call I.J7 []),
 Dd 18 (.call I.E5 [17]),
 Dm 16 18,
 Dd 19 (.extract 16 0),
 Dd 20 (.extract 16 1),
 Dd 21 (.extract 16 2),
 Dd 4 (.alloc [.int .i64 0,.slice none 0 0,.slice none 0 0]),
 De (.store 3 4 19),
 Dm 5 20,
 Dm 6 21]
def F.D3.r3:=[
 Dm 22 6,
 Dd 23 (.bin .neq 22 (Ci 0)),
 Dm 24 23,
 ⟨some 25,.mv 5,(some (24,false)),[]⟩,
 ⟨some 26,.un .not 25,(some (24,false)),[]⟩,
 Dd 27 (.pick 24 (.const (.bool true)) 26),
 Dm 28 27,
 ⟨some 29,.faddr 2 4,(some (28,false)),[]⟩,
 ⟨some 30,.load 1 false 29,(some (28,false)),[]⟩,
 ⟨some 31,.len 30,(some (28,false)),[]⟩,
 ⟨some 32,.bin .neq 31 (Ci 2),(some (28,false)),[]⟩,
 Dd 33 (.pick 28 (.const (.bool true)) 32)]
def F.D3.r4:=[
 Dd 2 (.mv (.const (.bool false)))]
def F.D3.r5:=[
 Dd 35 (.load 3 true 3),
 Dd 36 (.call I.D2 [35]),
 Dm 34 36,
 Dd 37 (.extract 34 0),
 Dd 38 (.extract 34 1),
 Dd 7 (.alloc [.int .i64 0,.int .i64 0,.int .i64 0,.slice none 0 0]),
 De (.store 4 7 37),
 Dm 8 38]
def F.D3.r6:=[
 Dm 39 8,
 Dd 40 (.bin .neq 39 (Ci 0))]
def F.D3.r7:=[
 Dd 2 (.mv (.const (.bool true)))]
def F.D3.r8:=[
 Dd 42 (.load 4 true 7),
 Dd 43 (.call I.E5 [42]),
 Dm 41 43,
 Dd 44 (.extract 41 0),
 Dd 45 (.extract 41 1),
 Dd 46 (.extract 41 2),
 Dd 9 (.alloc [.int .i64 0,.slice none 0 0,.slice none 0 0]),
 De (.store 3 9 44),
 Dm 10 45,
 Dm 11 46]
def F.D3.r9:=[
 Dm 47 11,
 Dd 48 (.bin .eql 47 (Ci 2))]
def F.D3.r10:=[
 Dd 2 (.mv (.const (.bool true)))]
def F.D3.r11:=[
 Dm 49 11,
 Dd 50 (.bin .neq 49 (Ci 0)),
 Dm 51 50,
 ⟨some 52,.mv 10,(some (51,false)),[]⟩,
 ⟨some 53,.un .not 52,(some (51,false)),[]⟩,
 Dd 54 (.pick 51 (.const (.bool true)) 53)]
def F.D3.r12:=[
 Dd 2 (.mv (.const (.bool false)))]
def F.D3.r13:=[
 Dd 56 (.load 3 true 9),
 Dd 57 (.load 3 true 3),
 Dd 58 (.call I.E4 [56,57]),
 Dm 55 58,
 Dd 59 (.extract 55 0),
 Dd 60 (.extract 55 1),
 Dm 12 59,
 Dm 13 60]
def F.D3.r14:=[
 Dm 61 13,
 Dd 62 (.un .not 61),
 Dm 2 62]
def F.D3.c:ACode:=sr F.D3.r0 (sr F.D3.r1 (.seq (sr F.D3.r2 (sr F.D3.r3 (.cond 33 (sr F.D3.r4 (.ret)) (.skip)))) (sr F.D3.r5 (.seq (sr F.D3.r6 (.cond 40 (sr F.D3.r7 (.ret)) (.skip))) (sr F.D3.r8 (.seq (sr F.D3.r9 (.cond 48 (sr F.D3.r10 (.ret)) (.skip))) (.seq (sr F.D3.r11 (.cond 54 (sr F.D3.r12 (.ret)) (.skip))) (sr F.D3.r13 (sr F.D3.r14 (.ret))))))))))
def F.D3:AFunc:=⟨F.D3.c,[.tmp 2]⟩
def F.J7.r0:=[
 Dd 0 (.alloc [.int .i64 0,.int .i64 0,.int .i64 0,.slice none 0 0])]
def F.J7.r1:=[
 Dd 1 (.build [.bool false,.int .i64 0] [(0,1,.const (.bool true))]),
 Dd 2 (.bslice 2 1 [.bool false,.int .i64 0] [(0,2,1)]),
 Dd 3 (.build [.int .i64 0,.slice none 0 0] [(1,1,2)]),
 Dd 4 (.build [.bool false,.int .i64 0] [(0,1,.const (.bool true)),(1,1,.const (.int .i64 1))]),
 Dd 5 (.build [.bool false,.int .i64 0] []),
 Dd 6 (.bslice 2 2 [.bool false,.int .i64 0,.bool false,.int .i64 0] [(0,2,4),(2,2,5)]),
 Dd 7 (.build [.int .i64 0,.slice none 0 0] [(1,1,6)]),
 Dd 8 (.bslice 2 2 [.int .i64 0,.slice none 0 0,.int .i64 0,.slice none 0 0] [(0,2,3),(2,2,7)]),
 Dd 9 (.build [.int .i64 0,.int .i64 0,.int .i64 0,.slice none 0 0] [(0,1,.const (.int .i64 2)),(1,1,.const (.int .i64 1)),(3,1,8)]),
 De (.store 4 0 9)]
def F.J7.c:ACode:=sr F.J7.r0 (sr F.J7.r1 (.ret))
def F.J7:AFunc:=⟨F.J7.c,[.cell 0 4 true]⟩
end Go.Proofs.Ytmfkjilndpchbaa
