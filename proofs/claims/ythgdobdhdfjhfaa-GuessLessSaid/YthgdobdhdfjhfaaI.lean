/- The functions' numbers in this seat's translation: written by wip/tools/gen.py. -/
import Derived.Test.YthgdobdhdfjhfaaAb14
namespace Go.Proofs.Ythgdobdhdfjhfaa
open Go Go.Ab
abbrev I.parlkeep5_GuessLess : FuncId := 8
abbrev I.parlkeep5_below : FuncId := 20
abbrev I.slices_Equal_int_int : FuncId := 27
abbrev I.parlmake_Dfa : FuncId := 35
abbrev I.guess_Of : FuncId := 36
abbrev I.parlkeep5_fewer : FuncId := 37
abbrev I.slices_IndexFunc_int_int : FuncId := 42
abbrev I.parlmake_stream_next : FuncId := 47
abbrev I.parlmake_Below : FuncId := 53
abbrev I.guess_Rules : FuncId := 70
abbrev I.guess_Check : FuncId := 71
abbrev I.guess_first : FuncId := 72
abbrev I.guess_next : FuncId := 73
abbrev I.slices_Clone_api_Sym_api_Sym : FuncId := 74
abbrev I.guess_agrees : FuncId := 75
abbrev I.parlkeep5_examples : FuncId := 76
abbrev I.parlkeep5_fewer_1 : FuncId := 77
abbrev I.slices_ContainsFunc_int_int : FuncId := 78
abbrev I.parlkeep5_fewer_1_1 : FuncId := 79
abbrev I.slices_DeleteFunc_int_int : FuncId := 80
abbrev I.slices_Concat_int_int : FuncId := 98
abbrev I.slices_ContainsFunc_int_int_99 : FuncId := 99
abbrev I.guess_Check_1 : FuncId := 100
abbrev I.slices_Clone_int_int : FuncId := 101
abbrev I.guess_accepts : FuncId := 102
abbrev I.parlmake_Word : FuncId := 103
abbrev I.parlkeep5_accepts : FuncId := 104
abbrev I.slices_IndexFunc_int_int_105 : FuncId := 105
abbrev I.slices_Grow_int_int : FuncId := 118
abbrev I.guess_accepts_1 : FuncId := 119
abbrev I.dfa_Run : FuncId := 120
abbrev I.dfa_Check : FuncId := 124
end Go.Proofs.Ythgdobdhdfjhfaa
