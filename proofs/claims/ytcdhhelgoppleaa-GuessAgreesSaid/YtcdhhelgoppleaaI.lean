/- The functions' numbers in this seat's translation: written by wip/tools/gen.py. -/
import Derived.Test.YtcdhhelgoppleaaAb14
namespace Go.Proofs.Ytcdhhelgoppleaa
open Go Go.Ab
abbrev I.parlkeep5_GuessAgrees : FuncId := 3
abbrev I.parlmake_Dfa : FuncId := 4
abbrev I.guess_Of : FuncId := 5
abbrev I.parlkeep5_fewer : FuncId := 6
abbrev I.parlkeep5_below : FuncId := 7
abbrev I.mean_Accepts : FuncId := 8
abbrev I.parlmake_stream_next : FuncId := 9
abbrev I.guess_Rules : FuncId := 10
abbrev I.guess_Check : FuncId := 11
abbrev I.guess_first : FuncId := 12
abbrev I.guess_next : FuncId := 13
abbrev I.slices_Clone_api_Sym_api_Sym : FuncId := 14
abbrev I.guess_agrees : FuncId := 15
abbrev I.parlkeep5_examples : FuncId := 16
abbrev I.parlkeep5_fewer_1 : FuncId := 17
abbrev I.slices_ContainsFunc_int_int : FuncId := 18
abbrev I.parlkeep5_fewer_1_1 : FuncId := 19
abbrev I.slices_DeleteFunc_int_int : FuncId := 20
abbrev I.parlmake_Below : FuncId := 21
abbrev I.mean_check : FuncId := 22
abbrev I.mean_derived : FuncId := 23
abbrev I.mean_ends_is : FuncId := 24
abbrev I.slices_Concat_int_int : FuncId := 25
abbrev I.slices_ContainsFunc_int_int_26 : FuncId := 26
abbrev I.guess_Check_1 : FuncId := 27
abbrev I.slices_Equal_int_int : FuncId := 28
abbrev I.slices_Clone_int_int : FuncId := 29
abbrev I.guess_accepts : FuncId := 30
abbrev I.parlmake_Word : FuncId := 31
abbrev I.parlkeep5_accepts : FuncId := 32
abbrev I.slices_IndexFunc_int_int : FuncId := 33
abbrev I.slices_IndexFunc_int_int_34 : FuncId := 34
abbrev I.gram_Check : FuncId := 35
abbrev I.gram_Word : FuncId := 36
abbrev I.mean_ends_after : FuncId := 37
abbrev I.slices_Grow_int_int : FuncId := 38
abbrev I.guess_accepts_1 : FuncId := 39
abbrev I.dfa_Run : FuncId := 40
abbrev I.gram_Compare : FuncId := 41
abbrev I.dfa_Check : FuncId := 42
abbrev I.cmp_Compare_int : FuncId := 43
abbrev I.slices_CompareFunc_api_Sym_api_Sym_api_Sym_api_Sym : FuncId := 44
abbrev I.gram_Order : FuncId := 45
abbrev I.cmp_isNaN_int : FuncId := 46
end Go.Proofs.Ytcdhhelgoppleaa
