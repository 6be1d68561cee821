import Derived.Test.YtmfkjilndpchbaaI
namespace Go.Proofs.Ytmfkjilndpchbaa
open Go Go.Ab
def F.F5.r0:=[
 Dd 4 (.mv (.const (.bool false)))]
def F.F5.r1:=[
 Dm 14 0,
 Dd 15 (.call I.D4 [14]),
 Dd 5 (.alloc [.int .i64 0,.int .i64 0,.int .i64 0,.slice none 0 0]),
 De (.store 4 5 15)]
def F.F5.r2:=[
 Dd 17 (.call I.K0 []),
 Dd 18 (.call I.E2 [17]),
 Dm 16 18,
 Dd 19 (.extract 16 0),
 Dd 20 (.extract 16 1),
 Dd 21 (.extract 16 2),
 Dd 6 (.alloc [.int .i64 0,.slice none 0 0,.slice none 0 0]),
 De (.store 3 6 19),
 Dm 7 20,
 Dm 8 21]
def F.F5.r3:=[
 Dm 22 8,
 Dd 23 (.bin .neq 22 (Ci 0)),
 Dm 24 23,
 ⟨some 25,.mv 7,(some (24,false)),[]⟩,
 ⟨some 26,.un .not 25,(some (24,false)),[]⟩,
 Dd 27 (.pick 24 (.const (.bool true)) 26),
 Dm 28 27,
 ⟨some 29,.faddr 2 6,(some (28,false)),[]⟩,
 ⟨some 30,.load 1 false 29,(some (28,false)),[]⟩,
 ⟨some 31,.len 30,(some (28,false)),[]⟩,
 ⟨some 32,.bin .neq 31 (Ci 2),(some (28,false)),[]⟩,
 Dd 33 (.pick 28 (.const (.bool true)) 32)]
def F.F5.r4:=[
 Dd 4 (.mv (.const (.bool false)))]
def F.F5.r5:=[
 Dd 35 (.load 4 true 5),
 Dd 36 (.call I.E2 [35]),
 Dm 34 36,
 Dd 37 (.extract 34 0),
 Dd 38 (.extract 34 1),
 Dd 39 (.extract 34 2),
 Dd 9 (.alloc [.int .i64 0,.slice none 0 0,.slice none 0 0]),
 De (.store 3 9 37),
 Dm 10 38,
 Dm 11 39]
def F.F5.r6:=[
 Dd 41 (.load 4 true 5),
 Dm 42 1,
 Dd 43 (.call I.K3 [41,42]),
 Dm 40 43,
 Dd 44 (.extract 40 0),
 Dd 45 (.extract 40 1),
 Dd 12 (.alloc [.int .i64 0,.int .i64 0,.slice none 0 0]),
 De (.store 3 12 44),
 Dm 13 45]
def F.F5.r7:=[
 Dm 46 11,
 Dd 47 (.bin .eql 46 (Ci 2)),
 Dm 48 47,
 ⟨some 49,.mv 11,(some (48,false)),[]⟩,
 ⟨some 50,.bin .eql 49 (Ci 0),(some (48,false)),[]⟩,
 ⟨some 51,.mv 50,(some (48,false)),[]⟩,
 ⟨some 52,.mv 13,(some (51,true)),[]⟩,
 ⟨some 53,.un .not 52,(some (51,true)),[]⟩,
 ⟨some 54,.mv 53,(some (51,true)),[]⟩,
 ⟨some 55,.load 3 true 9,(some (54,false)),[]⟩,
 ⟨some 56,.load 3 true 12,(some (54,false)),[]⟩,
 ⟨some 57,.call I.K6 [56],(some (54,false)),[]⟩,
 ⟨some 58,.call I.J3 [55,57],(some (54,false)),[]⟩,
 ⟨some 59,.pick 54 (.const (.bool true)) 58,(some (51,true)),[]⟩,
 ⟨some 60,.pick 51 59 (.const (.bool false)),(some (48,false)),[]⟩,
 Dd 61 (.pick 48 (.const (.bool true)) 60),
 Dm 4 61]
def F.F5.c:ACode:=sr F.F5.r0 (sr F.F5.r1 (.seq (sr F.F5.r2 (sr F.F5.r3 (.cond 33 (sr F.F5.r4 (.ret)) (.skip)))) (sr F.F5.r5 (sr F.F5.r6 (.seq (.draw F.F5.r7 [(9,11)]) (.ret))))))
def F.F5:AFunc:=⟨F.F5.c,[.tmp 4]⟩
def F.K0.r0:=[
 Dd 0 (.alloc [.int .i64 0,.int .i64 0,.int .i64 0,.slice none 0 0])]
def F.K0.r1:=[
 Dd 1 (.build [.bool false,.int .i64 0] [(0,1,.const (.bool true))]),
 Dd 2 (.bslice 2 1 [.bool false,.int .i64 0] [(0,2,1)]),
 Dd 3 (.build [.int .i64 0,.slice none 0 0] [(1,1,2)]),
 Dd 4 (.build [.bool false,.int .i64 0] [(0,1,.const (.bool true)),(1,1,.const (.int .i64 1))]),
 Dd 5 (.build [.bool false,.int .i64 0] []),
 Dd 6 (.bslice 2 2 [.bool false,.int .i64 0,.bool false,.int .i64 0] [(0,2,4),(2,2,5)]),
 Dd 7 (.build [.int .i64 0,.slice none 0 0] [(1,1,6)]),
 Dd 8 (.bslice 2 2 [.int .i64 0,.slice none 0 0,.int .i64 0,.slice none 0 0] [(0,2,3),(2,2,7)]),
 Dd 9 (.build [.int .i64 0,.int .i64 0,.int .i64 0,.slice none 0 0] [(0,1,.const (.int .i64 2)),(1,1,.const (.int .i64 1)),(3,1,8)]),
 De (.store 4 0 9)]
def F.K0.c:ACode:=sr F.K0.r0 (sr F.K0.r1 (.ret))
def F.K0:AFunc:=⟨F.K0.c,[.cell 0 4 true]⟩
def F.J3.r0:=[
 Dd 2 (.box 0),
 Dd 4 (.mv (.const (.bool false)))]
def F.J3.r1:=[
 Dd 8 (.load 3 true 2),
 Dm 9 1,
 Dd 10 (.call I.J1 [8,9]),
 Dm 7 10,
 Dd 11 (.extract 7 0),
 Dd 12 (.extract 7 1),
 Dm 5 11,
 Dm 6 12]
def F.J3.r2:=[
 Dm 13 6,
 Dd 14 (.bin .eql 13 (Ci 0)),
 Dm 15 14,
 ⟨some 16,.mv 5,(some (15,true)),[]⟩,
 ⟨some 17,.bin .geq 16 (Ci 0),(some (15,true)),[]⟩,
 Dd 18 (.pick 15 17 (.const (.bool false))),
 Dm 4 18]
def F.J3.c:ACode:=sr F.J3.r0 (sr F.J3.r1 (sr F.J3.r2 (.ret)))
def F.J3:AFunc:=⟨F.J3.c,[.tmp 4]⟩
end Go.Proofs.Ytmfkjilndpchbaa
