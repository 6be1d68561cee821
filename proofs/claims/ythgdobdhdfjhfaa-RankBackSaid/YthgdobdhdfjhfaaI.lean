import Derived.Test.YthgdobdhdfjhfaaAb14
namespace Go.Proofs.Ythgdobdhdfjhfaa
open Go Go.Ab
abbrev I.parlkeep5_RankBack : FuncId := 14
abbrev I.parlmake_Grammar : FuncId := 15
abbrev I.parlkeep5_plain : FuncId := 17
abbrev I.tree_Size : FuncId := 19
abbrev I.parlkeep5_below : FuncId := 20
abbrev I.tree_Word : FuncId := 22
abbrev I.tree_Check : FuncId := 24
abbrev I.census_Trees : FuncId := 38
abbrev I.rank_Count : FuncId := 44
abbrev I.rank_Tree : FuncId := 45
abbrev I.rank_Of : FuncId := 46
abbrev I.parlmake_stream_next : FuncId := 47
abbrev I.parlmake_has : FuncId := 48
abbrev I.tree_leaf : FuncId := 52
abbrev I.parlmake_Below : FuncId := 53
abbrev I.tree_word : FuncId := 54
abbrev I.gram_Check : FuncId := 55
abbrev I.tree_valid : FuncId := 56
abbrev I.census_newTable : FuncId := 81
abbrev I.census_table_find : FuncId := 82
abbrev I.census_table_loops : FuncId := 83
abbrev I.census_table_count : FuncId := 84
abbrev I.rank_open : FuncId := 88
abbrev I.rank_book_tree : FuncId := 89
abbrev I.rank_book_of : FuncId := 90
abbrev I.gram_Compare : FuncId := 92
abbrev I.tree_symbol : FuncId := 93
abbrev I.census_rows_bool : FuncId := 106
abbrev I.census_rows_int : FuncId := 107
abbrev I.census_table_end : FuncId := 108
abbrev I.census_table_same : FuncId := 109
abbrev I.census_table_endless : FuncId := 110
abbrev I.census_table_way : FuncId := 111
abbrev I.rank_book_ways : FuncId := 112
abbrev I.rank_book_kids : FuncId := 113
abbrev I.rank_book_ofKids : FuncId := 114
abbrev I.cmp_Compare_int : FuncId := 115
abbrev I.slices_CompareFunc_api_Sym_api_Sym_api_Sym_api_Sym : FuncId := 116
abbrev I.gram_Order : FuncId := 117
abbrev I.census_table_sym : FuncId := 121
abbrev I.rank_book_part : FuncId := 122
abbrev I.cmp_isNaN_int : FuncId := 123
abbrev I.rank_book_sym : FuncId := 125
end Go.Proofs.Ythgdobdhdfjhfaa
