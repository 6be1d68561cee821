import Derived.Test.YtmfkjilndpchbaaI
namespace Go.Proofs.Ytmfkjilndpchbaa
open Go Go.Ab
def F.E5.r0:=[
 Dd 1 (.box 0),
 Dd 2 (.alloc [.int .i64 0,.slice none 0 0,.slice none 0 0]),
 Dd 3 (.mv (.const (.bool false))),
 Dd 4 (.mv (Ci 0))]
def F.E5.r1:=[
 Dd 20 (.load 4 true 1),
 Dd 21 (.call I.A9 [20]),
 Dm 19 21,
 Dd 22 (.extract 19 0),
 Dd 23 (.extract 19 1),
 Dm 5 22,
 Dm 6 23]
def F.E5.r2:=[
 Dm 24 6,
 Dd 25 (.bin .neq 24 (Ci 0))]
def F.E5.r3:=[
 Dd 26 (.build [.int .i64 0,.slice none 0 0,.slice none 0 0] []),
 Dm 27 6,
 De (.store 3 2 26),
 Dd 3 (.mv (.const (.bool false))),
 Dm 4 27]
def F.E5.r4:=[
 Dd 28 (.load 4 true 1),
 Dd 29 (.faddr 1 1),
 Dd 30 (.load 1 false 29),
 Dd 31 (.mkslice 2 32 [.int .i64 0,.slice none 0 0] 30 30),
 Dd 32 (.build [.int .i64 0,.int .i64 0,.int .i64 0,.slice none 0 0,.slice none 0 0,.slice none 0 0] [(0,4,28),(4,1,31)]),
 Dd 33 (.box 32),
 Dm 7 33]
def F.E5.r5:=[
 Dd 8 (.mv (.const (.bool true)))]
def F.E5.r6:=[
 Dm 34 5,
 Dd 35 (.len 34),
 Dd 36 (.mv (Ci 0))]
def F.E5.r7:=[
 Dd 37 (.bin .lss 36 35)]
def F.E5.r8:=[
 Dd 38 (.idxs 2 34 36),
 Dd 39 (.load 2 true 38),
 Dd 10 (.alloc [.int .i64 0,.slice none 0 0]),
 De (.store 2 10 39)]
def F.E5.r9:=[
 Dd 40 (.faddr 1 10),
 Dd 41 (.load 1 false 40),
 Dd 42 (.len 41),
 Dd 43 (.mv (Ci 0))]
def F.E5.r10:=[
 Dd 44 (.bin .lss 43 42)]
def F.E5.r11:=[
 Dd 45 (.idxs 1 41 43),
 Dd 46 (.load 1 false 45),
 Dm 12 46]
def F.E5.r12:=[
 Dm 47 7,
 Dd 48 (.nilchk 47),
 Dd 49 (.faddr 4 48),
 Dd 50 (.load 1 false 49),
 Dm 51 12,
 Dd 52 (.load 2 true 10),
 Dd 53 (.idxs 2 50 51),
 De (.store 2 53 52)]
def F.E5.r13:=[
 Dd 54 (.bin .add 43 (Ci 1)),
 Dm 43 54]
def F.E5.L1:ACode:=sr F.E5.r10 (.seq (.cond 44 (.skip) (.exit 2)) (.seq (.block 3 (sr F.E5.r11 (.draw F.E5.r12 []))) (.region F.E5.r13)))
def F.E5.r14:=[
 Dd 55 (.bin .add 36 (Ci 1)),
 Dm 36 55]
def F.E5.L0:ACode:=sr F.E5.r7 (.seq (.cond 37 (.skip) (.exit 0)) (.seq (.block 1 (sr F.E5.r8 (sr F.E5.r9 (.block 2 (.loop F.E5.L1))))) (.region F.E5.r14)))
def F.E5.r15:=[
 Dd 56 (.load 4 true 1),
 Dd 57 (.call I.E7 [56]),
 Dd 58 (.len 57),
 Dd 59 (.mv (Ci 0))]
def F.E5.r16:=[
 Dd 60 (.bin .lss 59 58)]
def F.E5.r17:=[
 Dm 61 59,
 Dd 62 (.idxs 1 57 59),
 Dd 63 (.load 1 false 62),
 Dm 13 61,
 Dm 14 63]
def F.E5.r18:=[
 Dm 64 8,
 Dm 65 64,
 ⟨some 66,.mv 14,(some (65,true)),[]⟩,
 ⟨some 67,.un .not 66,(some (65,true)),[]⟩,
 ⟨some 68,.mv 67,(some (65,true)),[]⟩,
 ⟨some 69,.mv 7,(some (68,false)),[]⟩,
 ⟨some 70,.nilchk 69,(some (68,false)),[]⟩,
 ⟨some 71,.faddr 4 70,(some (68,false)),[]⟩,
 ⟨some 72,.load 1 false 71,(some (68,false)),[]⟩,
 ⟨some 73,.mv 13,(some (68,false)),[]⟩,
 ⟨some 74,.idxs 2 72 73,(some (68,false)),[]⟩,
 ⟨some 75,.faddr 0 74,(some (68,false)),[]⟩,
 ⟨some 76,.load 1 false 75,(some (68,false)),[]⟩,
 ⟨some 77,.bin .neq 76 (Ci 2),(some (68,false)),[]⟩,
 ⟨some 78,.pick 68 (.const (.bool true)) 77,(some (65,true)),[]⟩,
 Dd 79 (.pick 65 78 (.const (.bool false))),
 Dm 8 79]
def F.E5.r19:=[
 Dd 80 (.bin .add 59 (Ci 1)),
 Dm 59 80]
def F.E5.L2:ACode:=sr F.E5.r16 (.seq (.cond 60 (.skip) (.exit 4)) (.seq (.block 5 (sr F.E5.r17 (.region F.E5.r18))) (.region F.E5.r19)))
def F.E5.r20:=[
 Dm 81 7,
 Dd 82 (.call I.F6 [81]),
 Dm 83 7,
 Dd 84 (.call I.F6 [83]),
 Dm 15 82,
 Dm 16 84]
def F.E5.r21:=[
 Dm 85 7,
 Dd 86 (.faddr 2 1),
 Dd 87 (.load 1 false 86),
 Dm 88 15,
 Dm 89 16,
 Dd 90 (.call I.B4 [85,87,88,89])]
def F.E5.r22:=[
 Dm 91 7,
 Dd 92 (.nilchk 91),
 Dd 93 (.faddr 5 92),
 Dd 94 (.load 1 false 93),
 Dd 95 (.len 94),
 Dd 96 (.bin .gtr 95 (Ci 1000))]
def F.E5.r23:=[
 Dd 97 (.build [.int .i64 0,.slice none 0 0,.slice none 0 0] []),
 De (.store 3 2 97),
 Dd 3 (.mv (.const (.bool false))),
 Dd 4 (.mv (Ci 2))]
def F.E5.r24:=[
 Dm 99 7,
 Dm 100 15,
 Dm 101 16,
 Dd 102 (.call I.B8 [99,100,101]),
 Dm 98 102,
 Dd 103 (.extract 98 0),
 Dd 104 (.extract 98 1),
 Dd 17 (.alloc [.int .i64 0,.slice none 0 0,.slice none 0 0]),
 De (.store 3 17 103),
 Dm 18 104]
def F.E5.r25:=[
 Dm 105 18,
 Dd 106 (.un .not 105)]
def F.E5.r26:=[
 Dd 107 (.build [.int .i64 0,.slice none 0 0,.slice none 0 0] []),
 De (.store 3 2 107),
 Dd 3 (.mv (.const (.bool false))),
 Dd 4 (.mv (Ci 2))]
def F.E5.r27:=[
 Dd 109 (.load 3 true 17),
 Dd 110 (.call I.G0 [109]),
 Dm 108 110,
 Dd 111 (.extract 108 0),
 Dd 112 (.extract 108 1),
 De (.store 3 17 111),
 Dm 6 112]
def F.E5.r28:=[
 Dd 113 (.load 3 true 17),
 Dm 114 8,
 Dm 115 6,
 De (.store 3 2 113),
 Dm 3 114,
 Dm 4 115]
def F.E5.c:ACode:=sr F.E5.r0 (sr F.E5.r1 (.seq (sr F.E5.r2 (.cond 25 (sr F.E5.r3 (.ret)) (.skip))) (.seq (.draw F.E5.r4 []) (sr F.E5.r5 (.seq (sr F.E5.r6 (.block 0 (.loop F.E5.L0))) (.seq (sr F.E5.r15 (.block 4 (.loop F.E5.L2))) (sr F.E5.r20 (sr F.E5.r21 (.seq (sr F.E5.r22 (.cond 96 (sr F.E5.r23 (.ret)) (.skip))) (sr F.E5.r24 (.seq (sr F.E5.r25 (.cond 106 (sr F.E5.r26 (.ret)) (.skip))) (sr F.E5.r27 (sr F.E5.r28 (.ret))))))))))))))
def F.E5:AFunc:=⟨F.E5.c,[.cell 2 3 true,.tmp 3,.tmp 4]⟩
def F.A9.r0:=[
 Dd 1 (.box 0),
 Dd 2 (.mv (.const (.slice none 0 0))),
 Dd 3 (.mv (Ci 0))]
def F.A9.r1:=[
 Dd 19 (.load 4 true 1),
 Dd 20 (.call I.E1 [19]),
 Dm 4 20]
def F.A9.r2:=[
 Dm 21 4,
 Dd 22 (.bin .neq 21 (Ci 0))]
def F.A9.r3:=[
 Dm 23 4,
 Dd 2 (.mv (.const (.slice none 0 0))),
 Dm 3 23]
def F.A9.r4:=[
 Dd 24 (.faddr 1 1),
 Dd 25 (.load 1 false 24),
 Dd 26 (.mkslice 1 24 [.slice none 0 0] 25 25),
 Dm 5 26]
def F.A9.r5:=[
 Dm 27 5,
 Dd 28 (.len 27),
 Dd 29 (.mv (Ci 0))]
def F.A9.r6:=[
 Dd 30 (.bin .lss 29 28)]
def F.A9.r7:=[
 Dm 31 29,
 Dm 6 31]
def F.A9.r8:=[
 Dm 32 5,
 Dm 33 6,
 Dd 34 (.faddr 1 1),
 Dd 35 (.load 1 false 34),
 Dd 36 (.mkslice 1 1 [.bool false] 35 35),
 Dd 37 (.idxs 1 32 33),
 De (.store 1 37 36)]
def F.A9.r9:=[
 Dm 38 5,
 Dm 39 6,
 Dd 40 (.idxs 1 38 39),
 Dd 41 (.load 1 false 40),
 Dm 42 6,
 Dd 43 (.idxs 1 41 42),
 De (.store 1 43 (.const (.bool true)))]
def F.A9.r10:=[
 Dd 44 (.bin .add 29 (Ci 1)),
 Dm 29 44]
def F.A9.L0:ACode:=sr F.A9.r6 (.seq (.cond 30 (.skip) (.exit 0)) (.seq (.block 1 (sr F.A9.r7 (sr F.A9.r8 (.region F.A9.r9)))) (.region F.A9.r10)))
def F.A9.r11:=[
 Dd 45 (.faddr 3 1),
 Dd 46 (.load 1 false 45),
 Dd 47 (.len 46),
 Dd 48 (.mv (Ci 0))]
def F.A9.r12:=[
 Dd 49 (.bin .lss 48 47)]
def F.A9.r13:=[
 Dd 50 (.idxs 2 46 48),
 Dd 51 (.load 2 true 50),
 Dd 8 (.alloc [.int .i64 0,.slice none 0 0]),
 De (.store 2 8 51)]
def F.A9.r14:=[
 Dd 52 (.faddr 1 8),
 Dd 53 (.load 1 false 52),
 Dd 54 (.len 53),
 Dd 55 (.mv (Ci 0))]
def F.A9.r15:=[
 Dd 56 (.bin .lss 55 54)]
def F.A9.r16:=[
 Dd 57 (.idxs 2 53 55),
 Dd 58 (.load 2 true 57),
 Dd 10 (.alloc [.bool false,.int .i64 0]),
 De (.store 2 10 58)]
def F.A9.r17:=[
 Dd 59 (.faddr 0 10),
 Dd 60 (.load 1 false 59),
 Dd 61 (.un .not 60)]
def F.A9.r18:=[
 Dm 62 5,
 Dd 63 (.faddr 0 8),
 Dd 64 (.load 1 false 63),
 Dd 65 (.idxs 1 62 64),
 Dd 66 (.load 1 false 65),
 Dd 67 (.faddr 1 10),
 Dd 68 (.load 1 false 67),
 Dd 69 (.idxs 1 66 68),
 De (.store 1 69 (.const (.bool true)))]
def F.A9.r19:=[
 Dd 70 (.bin .add 55 (Ci 1)),
 Dm 55 70]
def F.A9.L2:ACode:=sr F.A9.r15 (.seq (.cond 56 (.skip) (.exit 4)) (.seq (.block 5 (sr F.A9.r16 (sr F.A9.r17 (.cond 61 (.draw F.A9.r18 []) (.skip))))) (.region F.A9.r19)))
def F.A9.r20:=[
 Dd 71 (.bin .add 48 (Ci 1)),
 Dm 48 71]
def F.A9.L1:ACode:=sr F.A9.r12 (.seq (.cond 49 (.skip) (.exit 2)) (.seq (.block 3 (sr F.A9.r13 (sr F.A9.r14 (.block 4 (.loop F.A9.L2))))) (.region F.A9.r20)))
def F.A9.r21:=[
 Dm 72 5,
 Dd 73 (.len 72),
 Dd 74 (.mv (Ci 0))]
def F.A9.r22:=[
 Dd 75 (.bin .lss 74 73)]
def F.A9.r23:=[
 Dm 76 74,
 Dm 11 76]
def F.A9.r24:=[
 Dm 77 5,
 Dd 78 (.len 77),
 Dd 79 (.mv (Ci 0))]
def F.A9.r25:=[
 Dd 80 (.bin .lss 79 78)]
def F.A9.r26:=[
 Dm 81 79,
 Dm 12 81]
def F.A9.r27:=[
 Dm 82 5,
 Dd 83 (.len 82),
 Dd 84 (.mv (Ci 0))]
def F.A9.r28:=[
 Dd 85 (.bin .lss 84 83)]
def F.A9.r29:=[
 Dm 86 84,
 Dm 13 86]
def F.A9.r30:=[
 Dm 87 5,
 Dm 88 12,
 Dd 89 (.idxs 1 87 88),
 Dd 90 (.load 1 false 89),
 Dm 91 13,
 Dm 92 5,
 Dm 93 12,
 Dd 94 (.idxs 1 92 93),
 Dd 95 (.load 1 false 94),
 Dm 96 13,
 Dd 97 (.idxs 1 95 96),
 Dd 98 (.load 1 false 97),
 Dm 99 98,
 ⟨some 100,.mv 5,(some (99,false)),[]⟩,
 ⟨some 101,.mv 12,(some (99,false)),[]⟩,
 ⟨some 102,.idxs 1 100 101,(some (99,false)),[]⟩,
 ⟨some 103,.load 1 false 102,(some (99,false)),[]⟩,
 ⟨some 104,.mv 11,(some (99,false)),[]⟩,
 ⟨some 105,.idxs 1 103 104,(some (99,false)),[]⟩,
 ⟨some 106,.load 1 false 105,(some (99,false)),[]⟩,
 ⟨some 107,.mv 106,(some (99,false)),[]⟩,
 ⟨some 108,.mv 5,(some (107,true)),[]⟩,
 ⟨some 109,.mv 11,(some (107,true)),[]⟩,
 ⟨some 110,.idxs 1 108 109,(some (107,true)),[]⟩,
 ⟨some 111,.load 1 false 110,(some (107,true)),[]⟩,
 ⟨some 112,.mv 13,(some (107,true)),[]⟩,
 ⟨some 113,.idxs 1 111 112,(some (107,true)),[]⟩,
 ⟨some 114,.load 1 false 113,(some (107,true)),[]⟩,
 ⟨some 115,.pick 107 114 (.const (.bool false)),(some (99,false)),[]⟩,
 Dd 116 (.pick 99 (.const (.bool true)) 115),
 Dd 117 (.idxs 1 90 91),
 De (.store 1 117 116)]
def F.A9.r31:=[
 Dd 118 (.bin .add 84 (Ci 1)),
 Dm 84 118]
def F.A9.L5:ACode:=sr F.A9.r28 (.seq (.cond 85 (.skip) (.exit 10)) (.seq (.block 11 (sr F.A9.r29 (.draw F.A9.r30 []))) (.region F.A9.r31)))
def F.A9.r32:=[
 Dd 119 (.bin .add 79 (Ci 1)),
 Dm 79 119]
def F.A9.L4:ACode:=sr F.A9.r25 (.seq (.cond 80 (.skip) (.exit 8)) (.seq (.block 9 (sr F.A9.r26 (sr F.A9.r27 (.block 10 (.loop F.A9.L5))))) (.region F.A9.r32)))
def F.A9.r33:=[
 Dd 120 (.bin .add 74 (Ci 1)),
 Dm 74 120]
def F.A9.L3:ACode:=sr F.A9.r22 (.seq (.cond 75 (.skip) (.exit 6)) (.seq (.block 7 (sr F.A9.r23 (sr F.A9.r24 (.block 8 (.loop F.A9.L4))))) (.region F.A9.r33)))
def F.A9.r34:=[
 Dd 14 (.mv (.const (.slice none 0 0)))]
def F.A9.r35:=[
 Dd 121 (.faddr 1 1),
 Dd 122 (.load 1 false 121),
 Dd 123 (.mkslice 1 1 [.bool false] 122 122),
 Dm 15 123]
def F.A9.r36:=[
 Dm 124 5,
 Dd 125 (.len 124),
 Dd 126 (.mv (Ci 0))]
def F.A9.r37:=[
 Dd 127 (.bin .lss 126 125)]
def F.A9.r38:=[
 Dm 128 126,
 Dm 16 128]
def F.A9.r39:=[
 Dm 129 15,
 Dm 130 16,
 Dd 131 (.idxs 1 129 130),
 Dd 132 (.load 1 false 131)]
def F.A9.r40:=[
 Dd 133 (.build [.int .i64 0,.slice none 0 0] []),
 Dd 17 (.alloc [.int .i64 0,.slice none 0 0]),
 De (.store 2 17 133)]
def F.A9.r41:=[
 Dm 134 5,
 Dd 135 (.len 134),
 Dd 136 (.mv (Ci 0))]
def F.A9.r42:=[
 Dd 137 (.bin .lss 136 135)]
def F.A9.r43:=[
 Dm 138 136,
 Dm 18 138]
def F.A9.r44:=[
 Dm 139 5,
 Dm 140 16,
 Dd 141 (.idxs 1 139 140),
 Dd 142 (.load 1 false 141),
 Dm 143 18,
 Dd 144 (.idxs 1 142 143),
 Dd 145 (.load 1 false 144),
 Dm 146 145,
 ⟨some 147,.mv 5,(some (146,true)),[]⟩,
 ⟨some 148,.mv 18,(some (146,true)),[]⟩,
 ⟨some 149,.idxs 1 147 148,(some (146,true)),[]⟩,
 ⟨some 150,.load 1 false 149,(some (146,true)),[]⟩,
 ⟨some 151,.mv 16,(some (146,true)),[]⟩,
 ⟨some 152,.idxs 1 150 151,(some (146,true)),[]⟩,
 ⟨some 153,.load 1 false 152,(some (146,true)),[]⟩,
 Dd 154 (.pick 146 153 (.const (.bool false)))]
def F.A9.r45:=[
 Dd 155 (.faddr 1 17),
 Dd 156 (.load 1 false 155),
 Dm 157 18,
 Dd 158 (.bslice 1 1 [.int .i64 0] [(0,1,157)]),
 Dd 159 (.append 1 8 156 158),
 Dd 160 (.faddr 1 17),
 De (.store 1 160 159)]
def F.A9.r46:=[
 Dm 161 15,
 Dm 162 18,
 Dd 163 (.idxs 1 161 162),
 De (.store 1 163 (.const (.bool true)))]
def F.A9.r47:=[
 Dd 164 (.bin .add 136 (Ci 1)),
 Dm 136 164]
def F.A9.L7:ACode:=sr F.A9.r42 (.seq (.cond 137 (.skip) (.exit 14)) (.seq (.block 15 (sr F.A9.r43 (sr F.A9.r44 (.cond 154 (sr F.A9.r45 (.region F.A9.r46)) (.skip))))) (.region F.A9.r47)))
def F.A9.r48:=[
 Dd 165 (.load 4 true 1),
 Dd 166 (.faddr 1 17),
 Dd 167 (.load 1 false 166),
 Dd 168 (.call I.F3 [165,167]),
 Dd 169 (.faddr 0 17),
 De (.store 1 169 168)]
def F.A9.r49:=[
 Dm 170 14,
 Dd 171 (.load 2 true 17),
 Dd 172 (.bslice 2 1 [.int .i64 0,.slice none 0 0] [(0,2,171)]),
 Dd 173 (.append 2 32 170 172),
 Dm 14 173]
def F.A9.r50:=[
 Dd 174 (.bin .add 126 (Ci 1)),
 Dm 126 174]
def F.A9.L6:ACode:=sr F.A9.r37 (.seq (.cond 127 (.skip) (.exit 12)) (.seq (.block 13 (sr F.A9.r38 (.seq (sr F.A9.r39 (.cond 132 (.exit 13) (.skip))) (sr F.A9.r40 (.seq (sr F.A9.r41 (.block 14 (.loop F.A9.L7))) (sr F.A9.r48 (.region F.A9.r49))))))) (.region F.A9.r50)))
def F.A9.r51:=[
 Dm 175 14,
 Dm 2 175,
 Dd 3 (.mv (Ci 0))]
def F.A9.c:ACode:=sr F.A9.r0 (.seq (sr F.A9.r1 (sr F.A9.r2 (.cond 22 (sr F.A9.r3 (.ret)) (.skip)))) (sr F.A9.r4 (.seq (sr F.A9.r5 (.block 0 (.loop F.A9.L0))) (.seq (sr F.A9.r11 (.block 2 (.loop F.A9.L1))) (.seq (sr F.A9.r21 (.block 6 (.loop F.A9.L3))) (sr F.A9.r34 (sr F.A9.r35 (.seq (sr F.A9.r36 (.block 12 (.loop F.A9.L6))) (sr F.A9.r51 (.ret))))))))))
def F.A9:AFunc:=⟨F.A9.c,[.tmp 2,.tmp 3]⟩
def F.E7.r0:=[
 Dd 1 (.box 0),
 Dd 2 (.mv (.const (.slice none 0 0)))]
def F.E7.r1:=[
 Dd 9 (.faddr 1 1),
 Dd 10 (.load 1 false 9),
 Dd 11 (.mkslice 1 1 [.bool false] 10 10),
 Dm 3 11]
def F.E7.r2:=[
 Dm 12 3,
 Dd 13 (.faddr 2 1),
 Dd 14 (.load 1 false 13),
 Dd 15 (.idxs 1 12 14),
 De (.store 1 15 (.const (.bool true)))]
def F.E7.r3:=[
 Dd 4 (.mv (.const (.bool true)))]
def F.E7.r4:=[
 Dm 16 4]
def F.E7.r5:=[
 Dd 4 (.mv (.const (.bool false)))]
def F.E7.r6:=[
 Dd 17 (.faddr 3 1),
 Dd 18 (.load 1 false 17),
 Dd 19 (.len 18),
 Dd 20 (.mv (Ci 0))]
def F.E7.r7:=[
 Dd 21 (.bin .lss 20 19)]
def F.E7.r8:=[
 Dd 22 (.idxs 2 18 20),
 Dd 23 (.load 2 true 22),
 Dd 6 (.alloc [.int .i64 0,.slice none 0 0]),
 De (.store 2 6 23)]
def F.E7.r9:=[
 Dd 24 (.faddr 1 6),
 Dd 25 (.load 1 false 24),
 Dd 26 (.len 25),
 Dd 27 (.mv (Ci 0))]
def F.E7.r10:=[
 Dd 28 (.bin .lss 27 26)]
def F.E7.r11:=[
 Dd 29 (.idxs 2 25 27),
 Dd 30 (.load 2 true 29),
 Dd 8 (.alloc [.bool false,.int .i64 0]),
 De (.store 2 8 30)]
def F.E7.r12:=[
 Dm 31 3,
 Dd 32 (.faddr 0 6),
 Dd 33 (.load 1 false 32),
 Dd 34 (.idxs 1 31 33),
 Dd 35 (.load 1 false 34),
 Dm 36 35,
 ⟨some 37,.faddr 0 8,(some (36,true)),[]⟩,
 ⟨some 38,.load 1 false 37,(some (36,true)),[]⟩,
 ⟨some 39,.un .not 38,(some (36,true)),[]⟩,
 Dd 40 (.pick 36 39 (.const (.bool false))),
 Dm 41 40,
 ⟨some 42,.mv 3,(some (41,true)),[]⟩,
 ⟨some 43,.faddr 1 8,(some (41,true)),[]⟩,
 ⟨some 44,.load 1 false 43,(some (41,true)),[]⟩,
 ⟨some 45,.idxs 1 42 44,(some (41,true)),[]⟩,
 ⟨some 46,.load 1 false 45,(some (41,true)),[]⟩,
 ⟨some 47,.un .not 46,(some (41,true)),[]⟩,
 Dd 48 (.pick 41 47 (.const (.bool false)))]
def F.E7.r13:=[
 Dm 49 3,
 Dd 50 (.faddr 1 8),
 Dd 51 (.load 1 false 50),
 Dd 52 (.idxs 1 49 51),
 De (.store 1 52 (.const (.bool true))),
 Dd 4 (.mv (.const (.bool true)))]
def F.E7.r14:=[
 Dd 53 (.bin .add 27 (Ci 1)),
 Dm 27 53]
def F.E7.L2:ACode:=sr F.E7.r10 (.seq (.cond 28 (.skip) (.exit 4)) (.seq (.block 5 (sr F.E7.r11 (sr F.E7.r12 (.cond 48 (.region F.E7.r13) (.skip))))) (.region F.E7.r14)))
def F.E7.r15:=[
 Dd 54 (.bin .add 20 (Ci 1)),
 Dm 20 54]
def F.E7.L1:ACode:=sr F.E7.r7 (.seq (.cond 21 (.skip) (.exit 2)) (.seq (.block 3 (sr F.E7.r8 (sr F.E7.r9 (.block 4 (.loop F.E7.L2))))) (.region F.E7.r15)))
def F.E7.L0:ACode:=.seq (sr F.E7.r4 (.cond 16 (.skip) (.exit 0))) (.block 1 (sr F.E7.r5 (sr F.E7.r6 (.block 2 (.loop F.E7.L1)))))
def F.E7.r16:=[
 Dm 55 3,
 Dm 2 55]
def F.E7.c:ACode:=sr F.E7.r0 (sr F.E7.r1 (sr F.E7.r2 (.seq (sr F.E7.r3 (.block 0 (.loop F.E7.L0))) (sr F.E7.r16 (.ret)))))
def F.E7:AFunc:=⟨F.E7.c,[.tmp 2]⟩
def F.F6.r0:=[
 Dd 2 (.mv (Ci 0))]
def F.F6.r1:=[
 Dm 3 0,
 Dm 4 0,
 Dd 5 (.nilchk 4),
 Dd 6 (.faddr 5 5),
 Dd 7 (.load 1 false 6),
 Dd 8 (.bslice 1 1 [.slice none 0 0] [(0,1,.const (.slice none 0 0))]),
 Dd 9 (.append 1 24 7 8),
 Dd 10 (.nilchk 3),
 Dd 11 (.faddr 5 10),
 De (.store 1 11 9)]
def F.F6.r2:=[
 Dm 12 0,
 Dd 13 (.nilchk 12),
 Dd 14 (.faddr 5 13),
 Dd 15 (.load 1 false 14),
 Dd 16 (.len 15),
 Dd 17 (.bin .sub 16 (Ci 1)),
 Dm 2 17]
def F.F6.c:ACode:=sr F.F6.r0 (sr F.F6.r1 (sr F.F6.r2 (.ret)))
def F.F6:AFunc:=⟨F.F6.c,[.tmp 2]⟩
def F.B4.r0:=[
 Dm 25 0,
 Dd 26 (.nilchk 25),
 Dd 27 (.faddr 5 26),
 Dd 28 (.load 1 false 27),
 Dd 29 (.len 28),
 Dd 30 (.bin .gtr 29 (Ci 1000))]
def F.B4.r1:=[
 Dm 31 0,
 Dd 32 (.nilchk 31),
 Dd 33 (.faddr 4 32),
 Dd 34 (.load 1 false 33),
 Dm 35 1,
 Dd 36 (.idxs 2 34 35),
 Dd 37 (.load 2 true 36),
 Dd 8 (.alloc [.int .i64 0,.slice none 0 0]),
 De (.store 2 8 37)]
def F.B4.r2:=[
 Dd 38 (.mkmap),
 Dd 39 (.mkmap),
 Dm 9 38,
 Dm 10 39]
def F.B4.r3:=[
 Dd 40 (.faddr 1 8),
 Dd 41 (.load 1 false 40),
 Dd 42 (.len 41),
 Dd 43 (.mv (Ci 0))]
def F.B4.r4:=[
 Dd 44 (.bin .lss 43 42)]
def F.B4.r5:=[
 Dd 45 (.idxs 1 41 43),
 Dd 46 (.load 1 false 45),
 Dm 12 46]
def F.B4.r6:=[
 Dm 47 9,
 Dm 48 12,
 Dm 49 0,
 Dd 50 (.call I.F6 [49]),
 De (.mset .int 47 48 50)]
def F.B4.r7:=[
 Dd 51 (.faddr 0 8),
 Dd 52 (.load 1 false 51),
 Dd 53 (.bin .eql 52 (Ci 2))]
def F.B4.r8:=[
 Dm 54 10,
 Dm 55 12,
 Dm 56 0,
 Dd 57 (.call I.F6 [56]),
 De (.mset .int 54 55 57)]
def F.B4.r9:=[
 Dd 58 (.bin .add 43 (Ci 1)),
 Dm 43 58]
def F.B4.L0:ACode:=sr F.B4.r4 (.seq (.cond 44 (.skip) (.exit 0)) (.seq (.block 1 (sr F.B4.r5 (sr F.B4.r6 (sr F.B4.r7 (.cond 53 (.region F.B4.r8) (.skip)))))) (.region F.B4.r9)))
def F.B4.r10:=[
 Dd 59 (.faddr 0 8),
 Dd 60 (.load 1 false 59)]
def F.B4.r13:=[
 Dd 74 (.bin .eql 60 (Ci 1)),
 Dm 73 74]
def F.B4.r14:=[
 Dm 75 0,
 Dm 76 9,
 Dm 77 1,
 Dd 78 (.mlook .int (.int .i64 0) false 76 77),
 Dm 79 3,
 Dd 80 (.call I.F8 [75,78,.const (.int .i64 (-1)),79])]
def F.B4.r15:=[
 Dd 82 (.bin .eql 60 (Ci 0)),
 Dm 81 82]
def F.B4.r16:=[
 Dm 83 0,
 Dm 84 2,
 Dm 85 9,
 Dm 86 1,
 Dd 87 (.mlook .int (.int .i64 0) false 85 86),
 Dd 88 (.call I.F8 [83,84,.const (.int .i64 (-1)),87])]
def F.B4.r11:=[
 Dm 61 0,
 Dm 62 2,
 Dm 63 9,
 Dm 64 1,
 Dd 65 (.mlook .int (.int .i64 0) false 63 64),
 Dd 66 (.call I.F8 [61,62,.const (.int .i64 (-1)),65])]
def F.B4.r12:=[
 Dm 67 0,
 Dm 68 10,
 Dm 69 1,
 Dd 70 (.mlook .int (.int .i64 0) false 68 69),
 Dm 71 3,
 Dd 72 (.call I.F8 [67,70,.const (.int .i64 (-1)),71])]
def F.B4.r17:=[
 Dm 89 0,
 Dd 90 (.nilchk 89),
 Dd 91 (.faddr 0 90),
 Dd 92 (.faddr 3 91),
 Dd 93 (.load 1 false 92),
 Dd 94 (.len 93),
 Dd 95 (.mv (Ci 0))]
def F.B4.r18:=[
 Dd 96 (.bin .lss 95 94)]
def F.B4.r19:=[
 Dd 97 (.idxs 2 93 95),
 Dd 98 (.load 2 true 97),
 Dd 14 (.alloc [.int .i64 0,.slice none 0 0]),
 De (.store 2 14 98)]
def F.B4.r20:=[
 Dm 100 9,
 Dd 101 (.faddr 0 14),
 Dd 102 (.load 1 false 101),
 Dd 103 (.mlook .int (.int .i64 0) true 100 102),
 Dm 99 103,
 Dd 104 (.extract 99 0),
 Dd 105 (.extract 99 1),
 Dm 15 104,
 Dm 16 105]
def F.B4.r21:=[
 Dm 106 16,
 Dd 107 (.un .not 106)]
def F.B4.r22:=[
 Dd 108 (.faddr 1 14),
 Dd 109 (.load 1 false 108),
 Dm 17 109]
def F.B4.r23:=[
 Dd 110 (.faddr 0 8),
 Dd 111 (.load 1 false 110)]
def F.B4.r33:=[
 Dd 162 (.bin .eql 111 (Ci 0)),
 Dm 161 162]
def F.B4.r34:=[
 Dm 163 3,
 Dm 18 163]
def F.B4.r35:=[
 Dm 164 17,
 Dd 165 (.len 164),
 Dd 166 (.bin .sub 165 (Ci 1)),
 Dm 19 166]
def F.B4.r36:=[
 Dm 167 19,
 Dd 168 (.bin .geq 167 (Ci 0)),
 Dm 169 168,
 ⟨some 170,.mv 17,(some (169,true)),[]⟩,
 ⟨some 171,.mv 19,(some (169,true)),[]⟩,
 ⟨some 172,.idxs 2 170 171,(some (169,true)),[]⟩,
 ⟨some 173,.faddr 0 172,(some (169,true)),[]⟩,
 ⟨some 174,.load 1 false 173,(some (169,true)),[]⟩,
 ⟨some 175,.un .not 174,(some (169,true)),[]⟩,
 Dd 176 (.pick 169 175 (.const (.bool false))),
 Dm 177 176,
 ⟨some 178,.faddr 1 8,(some (177,true)),[]⟩,
 ⟨some 179,.load 1 false 178,(some (177,true)),[]⟩,
 ⟨some 180,.mv 17,(some (177,true)),[]⟩,
 ⟨some 181,.mv 19,(some (177,true)),[]⟩,
 ⟨some 182,.idxs 2 180 181,(some (177,true)),[]⟩,
 ⟨some 183,.faddr 1 182,(some (177,true)),[]⟩,
 ⟨some 184,.load 1 false 183,(some (177,true)),[]⟩,
 ⟨some 185,.call I.C4 [179,184],(some (177,true)),[]⟩,
 Dd 186 (.pick 177 185 (.const (.bool false)))]
def F.B4.r37:=[
 Dm 187 9,
 Dm 188 17,
 Dm 189 19,
 Dd 190 (.idxs 2 188 189),
 Dd 191 (.faddr 1 190),
 Dd 192 (.load 1 false 191),
 Dd 193 (.mlook .int (.int .i64 0) false 187 192),
 Dm 194 17,
 Dm 195 19,
 Dd 196 (.slice 2 194 none (some 195)),
 Dm 18 193,
 Dm 17 196]
def F.B4.r38:=[
 Dm 197 0,
 Dm 198 9,
 Dd 199 (.faddr 0 14),
 Dd 200 (.load 1 false 199),
 Dd 201 (.mlook .int (.int .i64 0) false 198 200),
 Dm 202 17,
 Dm 203 18,
 Dd 204 (.call I.F0 [197,201,202,203])]
def F.B4.r39:=[
 Dd 206 (.bin .eql 111 (Ci 1)),
 Dm 205 206]
def F.B4.r40:=[
 Dm 207 2,
 Dm 20 207]
def F.B4.r41:=[
 Dm 208 17,
 Dd 209 (.len 208),
 Dd 210 (.bin .gtr 209 (Ci 0)),
 Dm 211 210,
 ⟨some 212,.mv 17,(some (211,true)),[]⟩,
 ⟨some 213,.idxs 2 212 (Ci 0),(some (211,true)),[]⟩,
 ⟨some 214,.faddr 0 213,(some (211,true)),[]⟩,
 ⟨some 215,.load 1 false 214,(some (211,true)),[]⟩,
 ⟨some 216,.un .not 215,(some (211,true)),[]⟩,
 Dd 217 (.pick 211 216 (.const (.bool false))),
 Dm 218 217,
 ⟨some 219,.faddr 1 8,(some (218,true)),[]⟩,
 ⟨some 220,.load 1 false 219,(some (218,true)),[]⟩,
 ⟨some 221,.mv 17,(some (218,true)),[]⟩,
 ⟨some 222,.idxs 2 221 (Ci 0),(some (218,true)),[]⟩,
 ⟨some 223,.faddr 1 222,(some (218,true)),[]⟩,
 ⟨some 224,.load 1 false 223,(some (218,true)),[]⟩,
 ⟨some 225,.call I.C4 [220,224],(some (218,true)),[]⟩,
 Dd 226 (.pick 218 225 (.const (.bool false)))]
def F.B4.r42:=[
 Dm 227 9,
 Dm 228 17,
 Dd 229 (.idxs 2 228 (Ci 0)),
 Dd 230 (.faddr 1 229),
 Dd 231 (.load 1 false 230),
 Dd 232 (.mlook .int (.int .i64 0) false 227 231),
 Dm 233 17,
 Dd 234 (.slice 2 233 (some (Ci 1)) none),
 Dm 20 232,
 Dm 17 234]
def F.B4.r43:=[
 Dm 235 0,
 Dm 236 20,
 Dm 237 17,
 Dm 238 9,
 Dd 239 (.faddr 0 14),
 Dd 240 (.load 1 false 239),
 Dd 241 (.mlook .int (.int .i64 0) false 238 240),
 Dd 242 (.call I.F0 [235,236,237,241])]
def F.B4.r24:=[
 Dm 112 9,
 Dd 113 (.faddr 0 14),
 Dd 114 (.load 1 false 113),
 Dd 115 (.mlook .int (.int .i64 0) false 112 114),
 Dm 21 115,
 Dd 22 (.mv (Ci 0))]
def F.B4.r25:=[
 Dm 116 17,
 Dd 117 (.len 116),
 Dd 118 (.mv (Ci 0))]
def F.B4.r26:=[
 Dd 119 (.bin .lss 118 117)]
def F.B4.r27:=[
 Dm 120 118,
 Dd 121 (.idxs 2 116 118),
 Dd 122 (.load 2 true 121),
 Dd 24 (.alloc [.bool false,.int .i64 0]),
 Dm 23 120,
 De (.store 2 24 122)]
def F.B4.r28:=[
 Dd 123 (.faddr 0 24),
 Dd 124 (.load 1 false 123),
 Dd 125 (.un .not 124),
 Dm 126 125,
 ⟨some 127,.faddr 1 8,(some (126,true)),[]⟩,
 ⟨some 128,.load 1 false 127,(some (126,true)),[]⟩,
 ⟨some 129,.faddr 1 24,(some (126,true)),[]⟩,
 ⟨some 130,.load 1 false 129,(some (126,true)),[]⟩,
 ⟨some 131,.call I.C4 [128,130],(some (126,true)),[]⟩,
 Dd 132 (.pick 126 131 (.const (.bool false)))]
def F.B4.r29:=[
 Dm 133 0,
 Dm 134 21,
 Dm 135 17,
 Dm 136 22,
 Dm 137 23,
 Dd 138 (.slice 2 135 (some 136) (some 137)),
 Dm 139 9,
 Dd 140 (.faddr 1 24),
 Dd 141 (.load 1 false 140),
 Dd 142 (.mlook .int (.int .i64 0) false 139 141),
 Dd 143 (.call I.F0 [133,134,138,142])]
def F.B4.r30:=[
 Dm 144 10,
 Dd 145 (.faddr 1 24),
 Dd 146 (.load 1 false 145),
 Dd 147 (.mlook .int (.int .i64 0) false 144 146),
 Dm 148 23,
 Dd 149 (.bin .add 148 (Ci 1)),
 Dm 21 147,
 Dm 22 149]
def F.B4.r31:=[
 Dd 150 (.bin .add 118 (Ci 1)),
 Dm 118 150]
def F.B4.L2:ACode:=sr F.B4.r26 (.seq (.cond 119 (.skip) (.exit 6)) (.seq (.block 7 (sr F.B4.r27 (sr F.B4.r28 (.cond 132 (.seq (.draw F.B4.r29 [(5,9)]) (.region F.B4.r30)) (.skip))))) (.region F.B4.r31)))
def F.B4.r32:=[
 Dm 151 0,
 Dm 152 21,
 Dm 153 17,
 Dm 154 22,
 Dd 155 (.slice 2 153 (some 154) none),
 Dm 156 10,
 Dd 157 (.faddr 0 14),
 Dd 158 (.load 1 false 157),
 Dd 159 (.mlook .int (.int .i64 0) false 156 158),
 Dd 160 (.call I.F0 [151,152,155,159])]
def F.B4.r44:=[
 Dd 243 (.bin .add 95 (Ci 1)),
 Dm 95 243]
def F.B4.L1:ACode:=sr F.B4.r18 (.seq (.cond 96 (.skip) (.exit 3)) (.seq (.block 4 (sr F.B4.r19 (.seq (sr F.B4.r20 (sr F.B4.r21 (.cond 107 (.exit 4) (.skip)))) (sr F.B4.r22 (sr F.B4.r23 (.block 5 (sr F.B4.r33 (.cond 161 (sr F.B4.r34 (.seq (sr F.B4.r35 (.seq (.draw F.B4.r36 []) (.cond 186 (.draw F.B4.r37 [(9,6)]) (.skip)))) (.region F.B4.r38))) (sr F.B4.r39 (.cond 205 (sr F.B4.r40 (.seq (.seq (.draw F.B4.r41 []) (.cond 226 (.draw F.B4.r42 [(7,5)]) (.skip))) (.region F.B4.r43))) (sr F.B4.r24 (.seq (sr F.B4.r25 (.block 6 (.loop F.B4.L2))) (.draw F.B4.r32 [(4,8)]))))))))))))) (.region F.B4.r44)))
def F.B4.c:ACode:=.seq (sr F.B4.r0 (.cond 30 (.ret) (.skip))) (sr F.B4.r1 (sr F.B4.r2 (.seq (sr F.B4.r3 (.block 0 (.loop F.B4.L0))) (.seq (sr F.B4.r10 (.block 2 (sr F.B4.r13 (.cond 73 (.region F.B4.r14) (sr F.B4.r15 (.cond 81 (.region F.B4.r16) (sr F.B4.r11 (.region F.B4.r12)))))))) (sr F.B4.r17 (.block 3 (.loop F.B4.L1)))))))
def F.B4:AFunc:=⟨F.B4.c,[]⟩
def F.B8.r0:=[
 Dd 6 (.alloc [.int .i64 0,.slice none 0 0,.slice none 0 0]),
 Dd 7 (.mv (.const (.bool false)))]
def F.B8.r1:=[
 Dm 19 0,
 Dm 20 1,
 Dd 21 (.bslice 1 1 [.int .i64 0] [(0,1,20)]),
 Dd 22 (.call I.C7 [19,21]),
 Dd 23 (.bslice 1 1 [.slice none 0 0] [(0,1,22)]),
 Dm 8 23]
def F.B8.r2:=[
 Dd 24 (.build [.int .i64 0,.slice none 0 0,.slice none 0 0] []),
 Dd 9 (.alloc [.int .i64 0,.slice none 0 0,.slice none 0 0]),
 De (.store 3 9 24)]
def F.B8.r3:=[
 Dd 10 (.mv (Ci 0))]
def F.B8.r4:=[
 Dm 25 10,
 Dm 26 8,
 Dd 27 (.len 26),
 Dd 28 (.bin .lss 25 27)]
def F.B8.r6:=[
 Dd 11 (.mv (.const (.slice none 0 0)))]
def F.B8.r7:=[
 Dm 31 0,
 Dd 32 (.nilchk 31),
 Dd 33 (.faddr 0 32),
 Dd 34 (.faddr 0 33),
 Dd 35 (.load 1 false 34),
 Dd 36 (.mv (Ci 0))]
def F.B8.r8:=[
 Dd 37 (.bin .lss 36 35)]
def F.B8.r9:=[
 Dm 38 36,
 Dm 12 38]
def F.B8.r10:=[
 Dd 13 (.alloc [.slice none 0 0])]
def F.B8.r11:=[
 Dm 39 8,
 Dm 40 10,
 Dd 41 (.idxs 1 39 40),
 Dd 42 (.load 1 false 41),
 Dd 43 (.len 42),
 Dd 44 (.mv (Ci 0))]
def F.B8.r12:=[
 Dd 45 (.bin .lss 44 43)]
def F.B8.r13:=[
 Dd 46 (.idxs 1 42 44),
 Dd 47 (.load 1 false 46),
 Dm 15 47]
def F.B8.r14:=[
 Dm 48 0,
 Dd 49 (.nilchk 48),
 Dd 50 (.faddr 5 49),
 Dd 51 (.load 1 false 50),
 Dm 52 15,
 Dd 53 (.idxs 1 51 52),
 Dd 54 (.load 1 false 53),
 Dd 55 (.len 54),
 Dd 56 (.mv (Ci 0))]
def F.B8.r15:=[
 Dd 57 (.bin .lss 56 55)]
def F.B8.r16:=[
 Dd 58 (.idxs 2 54 56),
 Dd 59 (.load 2 true 58),
 Dd 17 (.alloc [.int .i64 0,.int .i64 0]),
 De (.store 2 17 59)]
def F.B8.r17:=[
 Dd 60 (.faddr 0 17),
 Dd 61 (.load 1 false 60),
 Dm 62 12,
 Dd 63 (.bin .eql 61 62)]
def F.B8.r18:=[
 Dd 64 (.load 1 false 13),
 Dd 65 (.faddr 1 17),
 Dd 66 (.load 1 false 65),
 Dd 67 (.bslice 1 1 [.int .i64 0] [(0,1,66)]),
 Dd 68 (.append 1 8 64 67),
 De (.store 1 13 68)]
def F.B8.r19:=[
 Dd 69 (.bin .add 56 (Ci 1)),
 Dm 56 69]
def F.B8.L3:ACode:=sr F.B8.r15 (.seq (.cond 57 (.skip) (.exit 6)) (.seq (.block 7 (sr F.B8.r16 (sr F.B8.r17 (.cond 63 (.region F.B8.r18) (.skip))))) (.region F.B8.r19)))
def F.B8.r20:=[
 Dd 70 (.bin .add 44 (Ci 1)),
 Dm 44 70]
def F.B8.L2:ACode:=sr F.B8.r12 (.seq (.cond 45 (.skip) (.exit 4)) (.seq (.block 5 (sr F.B8.r13 (sr F.B8.r14 (.block 6 (.loop F.B8.L3))))) (.region F.B8.r20)))
def F.B8.r21:=[
 Dd 71 (.load 1 false 13),
 Dd 72 (.len 71),
 Dd 73 (.bin .eql 72 (Ci 0))]
def F.B8.r22:=[
 Dm 74 11,
 Dd 75 (.bslice 1 1 [.int .i64 0] [(0,1,.const (.int .i64 (-1)))]),
 Dd 76 (.append 1 8 74 75),
 Dm 11 76]
def F.B8.r23:=[
 Dm 77 0,
 Dd 78 (.load 1 false 13),
 Dd 79 (.call I.C7 [77,78]),
 De (.store 1 13 79)]
def F.B8.r24:=[
 Dm 80 8,
 Dd 81 (.mkfn (.func I.J0) [13]),
 Dd 82 (.call I.G1 [80,81]),
 Dm 18 82]
def F.B8.r25:=[
 Dm 83 18,
 Dd 84 (.bin .lss 83 (Ci 0))]
def F.B8.r26:=[
 Dm 85 8,
 Dd 86 (.len 85),
 Dm 18 86]
def F.B8.r27:=[
 Dm 87 8,
 Dd 88 (.load 1 false 13),
 Dd 89 (.bslice 1 1 [.slice none 0 0] [(0,1,88)]),
 Dd 90 (.append 1 24 87 89),
 Dm 8 90]
def F.B8.r28:=[
 Dm 91 11,
 Dm 92 18,
 Dd 93 (.bslice 1 1 [.int .i64 0] [(0,1,92)]),
 Dd 94 (.append 1 8 91 93),
 Dm 11 94]
def F.B8.r29:=[
 Dd 95 (.bin .add 36 (Ci 1)),
 Dm 36 95]
def F.B8.L1:ACode:=sr F.B8.r8 (.seq (.cond 37 (.skip) (.exit 2)) (.seq (.block 3 (sr F.B8.r9 (sr F.B8.r10 (.seq (sr F.B8.r11 (.block 4 (.loop F.B8.L2))) (.seq (sr F.B8.r21 (.cond 73 (sr F.B8.r22 (.exit 3)) (.skip))) (sr F.B8.r23 (sr F.B8.r24 (.seq (sr F.B8.r25 (.cond 84 (sr F.B8.r26 (.region F.B8.r27)) (.skip))) (.region F.B8.r28))))))))) (.region F.B8.r29)))
def F.B8.r30:=[
 Dd 96 (.faddr 2 9),
 Dd 97 (.load 1 false 96),
 Dm 98 11,
 Dd 99 (.bslice 1 1 [.slice none 0 0] [(0,1,98)]),
 Dd 100 (.append 1 24 97 99),
 Dd 101 (.faddr 2 9),
 De (.store 1 101 100)]
def F.B8.r31:=[
 Dm 102 8,
 Dm 103 10,
 Dd 104 (.idxs 1 102 103),
 Dd 105 (.load 1 false 104),
 Dm 106 2,
 Dd 107 (.call I.C4 [105,106])]
def F.B8.r32:=[
 Dd 108 (.faddr 1 9),
 Dd 109 (.load 1 false 108),
 Dd 110 (.bslice 1 1 [.int .i64 0] [(0,1,.const (.int .i64 0))]),
 Dd 111 (.append 1 8 109 110),
 Dd 112 (.faddr 1 9),
 De (.store 1 112 111)]
def F.B8.r33:=[
 Dd 113 (.faddr 1 9),
 Dd 114 (.load 1 false 113),
 Dd 115 (.bslice 1 1 [.int .i64 0] [(0,1,.const (.int .i64 (-1)))]),
 Dd 116 (.append 1 8 114 115),
 Dd 117 (.faddr 1 9),
 De (.store 1 117 116)]
def F.B8.r34:=[
 Dm 118 8,
 Dd 119 (.len 118),
 Dd 120 (.bin .gtr 119 (Ci 200))]
def F.B8.r35:=[
 Dd 121 (.build [.int .i64 0,.slice none 0 0,.slice none 0 0] []),
 De (.store 3 6 121),
 Dd 7 (.mv (.const (.bool false)))]
def F.B8.r5:=[
 Dm 29 10,
 Dd 30 (.bin .add 29 (Ci 1)),
 Dm 10 30]
def F.B8.L0:ACode:=.seq (sr F.B8.r4 (.cond 28 (.skip) (.exit 0))) (.seq (.block 1 (sr F.B8.r6 (.seq (sr F.B8.r7 (.block 2 (.loop F.B8.L1))) (sr F.B8.r30 (.seq (sr F.B8.r31 (.cond 107 (.region F.B8.r32) (.region F.B8.r33))) (sr F.B8.r34 (.cond 120 (sr F.B8.r35 (.ret)) (.skip)))))))) (.region F.B8.r5))
def F.B8.r36:=[
 Dd 122 (.load 3 true 9),
 De (.store 3 6 122),
 Dd 7 (.mv (.const (.bool true)))]
def F.B8.c:ACode:=sr F.B8.r0 (sr F.B8.r1 (sr F.B8.r2 (.seq (sr F.B8.r3 (.block 0 (.loop F.B8.L0))) (sr F.B8.r36 (.ret)))))
def F.B8:AFunc:=⟨F.B8.c,[.cell 6 3 true,.tmp 7]⟩
def F.F3.r0:=[
 Dd 2 (.box 0),
 Dd 4 (.mv (Ci 0))]
def F.F3.r1:=[
 Dd 5 (.mv (.const (.bool true))),
 Dd 6 (.mv (.const (.bool true)))]
def F.F3.r2:=[
 Dd 11 (.faddr 3 2),
 Dd 12 (.load 1 false 11),
 Dd 13 (.len 12),
 Dd 14 (.mv (Ci 0))]
def F.F3.r3:=[
 Dd 15 (.bin .lss 14 13)]
def F.F3.r4:=[
 Dd 16 (.idxs 2 12 14),
 Dd 17 (.load 2 true 16),
 Dd 8 (.alloc [.int .i64 0,.slice none 0 0]),
 De (.store 2 8 17)]
def F.F3.r5:=[
 Dm 18 1,
 Dd 19 (.faddr 0 8),
 Dd 20 (.load 1 false 19),
 Dd 21 (.call I.C4 [18,20]),
 Dd 22 (.un .not 21)]
def F.F3.r6:=[
 Dd 23 (.faddr 1 8),
 Dd 24 (.load 1 false 23),
 Dd 25 (.len 24),
 Dd 26 (.mv (Ci 0))]
def F.F3.r7:=[
 Dd 27 (.bin .lss 26 25)]
def F.F3.r8:=[
 Dm 28 26,
 Dd 29 (.idxs 2 24 26),
 Dd 30 (.load 2 true 29),
 Dd 10 (.alloc [.bool false,.int .i64 0]),
 Dm 9 28,
 De (.store 2 10 30)]
def F.F3.r9:=[
 Dd 31 (.faddr 0 10),
 Dd 32 (.load 1 false 31),
 Dm 33 32,
 ⟨some 34,.mv 1,(some (33,false)),[]⟩,
 ⟨some 35,.faddr 1 10,(some (33,false)),[]⟩,
 ⟨some 36,.load 1 false 35,(some (33,false)),[]⟩,
 ⟨some 37,.call I.C4 [34,36],(some (33,false)),[]⟩,
 ⟨some 38,.un .not 37,(some (33,false)),[]⟩,
 Dd 39 (.pick 33 (.const (.bool true)) 38)]
def F.F3.r10:=[
 Dm 40 5,
 Dm 41 40,
 ⟨some 42,.mv 9,(some (41,true)),[]⟩,
 ⟨some 43,.faddr 1 8,(some (41,true)),[]⟩,
 ⟨some 44,.load 1 false 43,(some (41,true)),[]⟩,
 ⟨some 45,.len 44,(some (41,true)),[]⟩,
 ⟨some 46,.bin .sub 45 (Ci 1),(some (41,true)),[]⟩,
 ⟨some 47,.bin .eql 42 46,(some (41,true)),[]⟩,
 Dd 48 (.pick 41 47 (.const (.bool false))),
 Dm 5 48]
def F.F3.r11:=[
 Dm 49 6,
 Dm 50 49,
 ⟨some 51,.mv 9,(some (50,true)),[]⟩,
 ⟨some 52,.bin .eql 51 (Ci 0),(some (50,true)),[]⟩,
 Dd 53 (.pick 50 52 (.const (.bool false))),
 Dm 6 53]
def F.F3.r12:=[
 Dd 54 (.bin .add 26 (Ci 1)),
 Dm 26 54]
def F.F3.L1:ACode:=sr F.F3.r7 (.seq (.cond 27 (.skip) (.exit 2)) (.seq (.block 3 (sr F.F3.r8 (.seq (sr F.F3.r9 (.cond 39 (.exit 3) (.skip))) (sr F.F3.r10 (.region F.F3.r11))))) (.region F.F3.r12)))
def F.F3.r13:=[
 Dd 55 (.bin .add 14 (Ci 1)),
 Dm 14 55]
def F.F3.L0:ACode:=sr F.F3.r3 (.seq (.cond 15 (.skip) (.exit 0)) (.seq (.block 1 (sr F.F3.r4 (.seq (sr F.F3.r5 (.cond 22 (.exit 1) (.skip))) (sr F.F3.r6 (.block 2 (.loop F.F3.L1)))))) (.region F.F3.r13)))
def F.F3.r14:=[
 Dm 57 5,
 Dm 56 57]
def F.F3.r15:=[
 Dd 4 (.mv (Ci 0))]
def F.F3.r16:=[
 Dm 59 6,
 Dm 58 59]
def F.F3.r17:=[
 Dd 4 (.mv (Ci 1))]
def F.F3.r18:=[
 Dd 4 (.mv (Ci 2))]
def F.F3.c:ACode:=sr F.F3.r0 (sr F.F3.r1 (.seq (sr F.F3.r2 (.block 0 (.loop F.F3.L0))) (.seq (.block 4 (sr F.F3.r14 (.cond 56 (sr F.F3.r15 (.ret)) (sr F.F3.r16 (.cond 58 (sr F.F3.r17 (.ret)) (.skip)))))) (sr F.F3.r18 (.ret)))))
def F.F3:AFunc:=⟨F.F3.c,[.tmp 4]⟩
def F.F8.r0:=[
 Dm 8 0,
 Dd 9 (.nilchk 8),
 Dd 10 (.faddr 5 9),
 Dd 11 (.load 1 false 10),
 Dm 12 1,
 Dm 13 0,
 Dd 14 (.nilchk 13),
 Dd 15 (.faddr 5 14),
 Dd 16 (.load 1 false 15),
 Dm 17 1,
 Dd 18 (.idxs 1 16 17),
 Dd 19 (.load 1 false 18),
 Dm 20 2,
 Dm 21 3,
 Dd 22 (.build [.int .i64 0,.int .i64 0] [(0,1,20),(1,1,21)]),
 Dd 23 (.bslice 2 1 [.int .i64 0,.int .i64 0] [(0,2,22)]),
 Dd 24 (.append 2 16 19 23),
 Dd 25 (.idxs 1 11 12),
 De (.store 1 25 24)]
def F.F8.c:ACode:=.draw F.F8.r0 [(3,16)]
def F.F8:AFunc:=⟨F.F8.c,[]⟩
def F.F0.r0:=[
 Dm 11 2,
 Dd 12 (.len 11),
 Dd 13 (.mv (Ci 0))]
def F.F0.r1:=[
 Dd 14 (.bin .lss 13 12)]
def F.F0.r2:=[
 Dm 15 13,
 Dd 16 (.idxs 2 11 13),
 Dd 17 (.load 2 true 16),
 Dd 9 (.alloc [.bool false,.int .i64 0]),
 Dm 8 15,
 De (.store 2 9 17)]
def F.F0.r3:=[
 Dm 18 3,
 Dm 10 18]
def F.F0.r4:=[
 Dm 19 8,
 Dm 20 2,
 Dd 21 (.len 20),
 Dd 22 (.bin .sub 21 (Ci 1)),
 Dd 23 (.bin .lss 19 22)]
def F.F0.r5:=[
 Dm 24 0,
 Dd 25 (.call I.F6 [24]),
 Dm 10 25]
def F.F0.r6:=[
 Dd 26 (.faddr 0 9),
 Dd 27 (.load 1 false 26)]
def F.F0.r7:=[
 Dm 28 0,
 Dm 29 1,
 Dd 30 (.faddr 1 9),
 Dd 31 (.load 1 false 30),
 Dm 32 10,
 Dd 33 (.call I.F8 [28,29,31,32])]
def F.F0.r8:=[
 Dm 34 0,
 Dd 35 (.faddr 1 9),
 Dd 36 (.load 1 false 35),
 Dm 37 1,
 Dm 38 10,
 Dd 39 (.call I.B4 [34,36,37,38])]
def F.F0.r9:=[
 Dm 40 10,
 Dm 1 40]
def F.F0.r10:=[
 Dd 41 (.bin .add 13 (Ci 1)),
 Dm 13 41]
def F.F0.L0:ACode:=sr F.F0.r1 (.seq (.cond 14 (.skip) (.exit 0)) (.seq (.block 1 (sr F.F0.r2 (sr F.F0.r3 (.seq (sr F.F0.r4 (.cond 23 (.region F.F0.r5) (.skip))) (.seq (sr F.F0.r6 (.cond 27 (.region F.F0.r7) (.region F.F0.r8))) (.region F.F0.r9)))))) (.region F.F0.r10)))
def F.F0.r11:=[
 Dm 42 2,
 Dd 43 (.len 42),
 Dd 44 (.bin .eql 43 (Ci 0))]
def F.F0.r12:=[
 Dm 45 0,
 Dm 46 1,
 Dm 47 3,
 Dd 48 (.call I.F8 [45,46,.const (.int .i64 (-1)),47])]
def F.F0.c:ACode:=.seq (sr F.F0.r0 (.block 0 (.loop F.F0.L0))) (sr F.F0.r11 (.cond 44 (.region F.F0.r12) (.skip)))
def F.F0:AFunc:=⟨F.F0.c,[]⟩
def F.C7.r0:=[
 Dd 4 (.mv (.const (.slice none 0 0)))]
def F.C7.r1:=[
 Dd 11 (.mkmap),
 Dm 5 11]
def F.C7.r2:=[
 Dd 6 (.mv (.const (.slice none 0 0)))]
def F.C7.r3:=[
 Dm 12 1,
 Dm 7 12]
def F.C7.r4:=[
 Dm 13 7,
 Dd 14 (.len 13),
 Dd 15 (.bin .gtr 14 (Ci 0))]
def F.C7.r5:=[
 Dm 16 7,
 Dd 17 (.idxs 1 16 (Ci 0)),
 Dd 18 (.load 1 false 17),
 Dm 8 18]
def F.C7.r6:=[
 Dm 19 7,
 Dd 20 (.slice 1 19 (some (Ci 1)) none),
 Dm 7 20]
def F.C7.r7:=[
 Dm 21 5,
 Dm 22 8,
 Dd 23 (.mlook .int (.bool false) false 21 22)]
def F.C7.r8:=[
 Dm 24 5,
 Dm 25 8,
 De (.mset .int 24 25 (.const (.bool true)))]
def F.C7.r9:=[
 Dm 26 6,
 Dm 27 8,
 Dd 28 (.bslice 1 1 [.int .i64 0] [(0,1,27)]),
 Dd 29 (.append 1 8 26 28),
 Dm 6 29]
def F.C7.r10:=[
 Dm 30 0,
 Dd 31 (.nilchk 30),
 Dd 32 (.faddr 5 31),
 Dd 33 (.load 1 false 32),
 Dm 34 8,
 Dd 35 (.idxs 1 33 34),
 Dd 36 (.load 1 false 35),
 Dd 37 (.len 36),
 Dd 38 (.mv (Ci 0))]
def F.C7.r11:=[
 Dd 39 (.bin .lss 38 37)]
def F.C7.r12:=[
 Dd 40 (.idxs 2 36 38),
 Dd 41 (.load 2 true 40),
 Dd 10 (.alloc [.int .i64 0,.int .i64 0]),
 De (.store 2 10 41)]
def F.C7.r13:=[
 Dd 42 (.faddr 0 10),
 Dd 43 (.load 1 false 42),
 Dd 44 (.bin .lss 43 (Ci 0))]
def F.C7.r14:=[
 Dm 45 7,
 Dd 46 (.call I.F4 [45]),
 Dd 47 (.faddr 1 10),
 Dd 48 (.load 1 false 47),
 Dd 49 (.bslice 1 1 [.int .i64 0] [(0,1,48)]),
 Dd 50 (.append 1 8 46 49),
 Dm 7 50]
def F.C7.r15:=[
 Dd 51 (.bin .add 38 (Ci 1)),
 Dm 38 51]
def F.C7.L1:ACode:=sr F.C7.r11 (.seq (.cond 39 (.skip) (.exit 2)) (.seq (.block 3 (sr F.C7.r12 (sr F.C7.r13 (.cond 44 (.draw F.C7.r14 [(3,1)]) (.skip))))) (.region F.C7.r15)))
def F.C7.L0:ACode:=.seq (sr F.C7.r4 (.cond 15 (.skip) (.exit 0))) (.block 1 (sr F.C7.r5 (sr F.C7.r6 (.seq (sr F.C7.r7 (.cond 23 (.exit 1) (.skip))) (sr F.C7.r8 (sr F.C7.r9 (sr F.C7.r10 (.block 2 (.loop F.C7.L1)))))))))
def F.C7.r16:=[
 Dm 52 6,
 Dd 53 (.call I.G9 [52])]
def F.C7.r17:=[
 Dm 54 6,
 Dm 4 54]
def F.C7.c:ACode:=sr F.C7.r0 (sr F.C7.r1 (sr F.C7.r2 (.seq (sr F.C7.r3 (.block 0 (.loop F.C7.L0))) (sr F.C7.r16 (sr F.C7.r17 (.ret))))))
def F.C7:AFunc:=⟨F.C7.c,[.tmp 4]⟩
def F.J0.r0:=[
 Dd 3 (.mv (.const (.bool false)))]
def F.J0.r1:=[
 Dm 4 0,
 Dd 5 (.load 1 false 1),
 Dd 6 (.call I.E0 [4,5]),
 Dm 3 6]
def F.J0.c:ACode:=sr F.J0.r0 (sr F.J0.r1 (.ret))
def F.J0:AFunc:=⟨F.J0.c,[.tmp 3]⟩
end Go.Proofs.Ytmfkjilndpchbaa
