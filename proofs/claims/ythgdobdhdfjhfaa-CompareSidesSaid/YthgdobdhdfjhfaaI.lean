/- The functions' numbers in this seat's translation: written by wip/tools/gen.py. -/
import Derived.Test.YthgdobdhdfjhfaaAb14
namespace Go.Proofs.Ythgdobdhdfjhfaa
open Go Go.Ab
abbrev I.parlkeep5_CompareSides : FuncId := 4
abbrev I.parlmake_Grammar : FuncId := 15
abbrev I.parlkeep5_plain : FuncId := 17
abbrev I.parlkeep5_below : FuncId := 20
abbrev I.parlkeep5_distinct : FuncId := 25
abbrev I.compare_Least : FuncId := 26
abbrev I.slices_Equal_int_int : FuncId := 27
abbrev I.mean_Accepts : FuncId := 28
abbrev I.parlmake_stream_next : FuncId := 47
abbrev I.parlmake_has : FuncId := 48
abbrev I.parlmake_Below : FuncId := 53
abbrev I.gram_Check : FuncId := 55
abbrev I.slices_ContainsFunc_api_Rule_api_Rule : FuncId := 57
abbrev I.parlkeep5_distinct_1 : FuncId := 58
abbrev I.slices_Equal_api_Sym_api_Sym : FuncId := 59
abbrev I.compare_words : FuncId := 60
abbrev I.compare_next : FuncId := 61
abbrev I.mean_check : FuncId := 62
abbrev I.mean_derived : FuncId := 63
abbrev I.mean_ends_is : FuncId := 64
abbrev I.gram_Compare : FuncId := 92
abbrev I.slices_IndexFunc_api_Rule_api_Rule : FuncId := 94
abbrev I.gram_Word : FuncId := 95
abbrev I.mean_ends_after : FuncId := 96
abbrev I.cmp_Compare_int : FuncId := 115
abbrev I.slices_CompareFunc_api_Sym_api_Sym_api_Sym_api_Sym : FuncId := 116
abbrev I.gram_Order : FuncId := 117
abbrev I.cmp_isNaN_int : FuncId := 123
end Go.Proofs.Ythgdobdhdfjhfaa
