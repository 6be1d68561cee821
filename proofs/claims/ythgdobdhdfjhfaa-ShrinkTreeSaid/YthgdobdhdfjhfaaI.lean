/- The functions' numbers in this seat's translation: written by wip/tools/gen.py. -/
import Derived.Test.YthgdobdhdfjhfaaAb14
namespace Go.Proofs.Ythgdobdhdfjhfaa
open Go Go.Ab
abbrev I.parlkeep5_ShrinkTree : FuncId := 3
abbrev I.parlmake_Grammar : FuncId := 15
abbrev I.shrink_Smaller : FuncId := 16
abbrev I.parlkeep5_plain : FuncId := 17
abbrev I.parlmake_Tree : FuncId := 18
abbrev I.tree_Size : FuncId := 19
abbrev I.parlkeep5_below : FuncId := 20
abbrev I.parlkeep5_ShrinkTree_1 : FuncId := 21
abbrev I.tree_Word : FuncId := 22
abbrev I.shrink_Tree : FuncId := 23
abbrev I.tree_Check : FuncId := 24
abbrev I.parlmake_stream_next : FuncId := 47
abbrev I.parlmake_has : FuncId := 48
abbrev I.shrink_below : FuncId := 49
abbrev I.tree_Clone : FuncId := 50
abbrev I.parlmake_tree : FuncId := 51
abbrev I.tree_leaf : FuncId := 52
abbrev I.parlmake_Below : FuncId := 53
abbrev I.tree_word : FuncId := 54
abbrev I.gram_Check : FuncId := 55
abbrev I.tree_valid : FuncId := 56
abbrev I.slices_Clone_api_Tree_api_Tree : FuncId := 91
abbrev I.gram_Compare : FuncId := 92
abbrev I.tree_symbol : FuncId := 93
abbrev I.cmp_Compare_int : FuncId := 115
abbrev I.slices_CompareFunc_api_Sym_api_Sym_api_Sym_api_Sym : FuncId := 116
abbrev I.gram_Order : FuncId := 117
abbrev I.cmp_isNaN_int : FuncId := 123
end Go.Proofs.Ythgdobdhdfjhfaa
