import Derived.Test.YtmeigkelacoibaaSl10
import Derived.Test.YtmeigkelacoibaaX
import Derived.Test.YtmeigkelacoibaaTDrawTree
import Derived.Test.YtmeigkelacoibaaQDrawTree
namespace Go.Proofs.Ytmeigkelacoibaa
open Go Go.Ab
theorem nt_parlmake_Below : Nd.parlmake_Below TDrawTree := ⟨inferInstance⟩
theorem nt_parlmake_stream_next : Nd.parlmake_stream_next TDrawTree := ⟨inferInstance, nt_parlmake_Below⟩
theorem nt_parlmake_has : Nd.parlmake_has TDrawTree := ⟨inferInstance⟩
theorem nt_parlmake_Grammar : Nd.parlmake_Grammar TDrawTree := ⟨inferInstance, nt_parlmake_stream_next, nt_parlmake_has⟩
theorem nt_parlkeep5_below : Nd.parlkeep5_below TDrawTree := ⟨inferInstance, nt_parlmake_Below⟩
theorem nt_parlkeep5_plain : Nd.parlkeep5_plain TDrawTree := ⟨inferInstance⟩
theorem nt_cmp_isNaN_int : Nd.cmp_isNaN_int TDrawTree := ⟨inferInstance⟩
theorem nt_cmp_Compare_int : Nd.cmp_Compare_int TDrawTree := ⟨inferInstance, nt_cmp_isNaN_int⟩
theorem nt_gram_Order : Nd.gram_Order TDrawTree := ⟨inferInstance, nt_cmp_Compare_int⟩
theorem nt_slices_CompareFunc_api_Sym_api_Sym_api_Sym_api_Sym__gram_Order : Nd.slices_CompareFunc_api_Sym_api_Sym_api_Sym_api_Sym__gram_Order TDrawTree := ⟨inferInstance, nt_gram_Order⟩
theorem nt_gram_Compare : Nd.gram_Compare TDrawTree := ⟨inferInstance, nt_cmp_Compare_int, nt_slices_CompareFunc_api_Sym_api_Sym_api_Sym_api_Sym__gram_Order⟩
theorem nt_gram_Check : Nd.gram_Check TDrawTree := ⟨inferInstance, nt_gram_Compare⟩
theorem nt_census_rows_bool : Nd.census_rows_bool TDrawTree := ⟨inferInstance⟩
theorem nt_census_rows_int : Nd.census_rows_int TDrawTree := ⟨inferInstance⟩
theorem nt_census_newTable : Nd.census_newTable TDrawTree := ⟨inferInstance, nt_census_rows_bool, nt_census_rows_int⟩
theorem nt_census_table_sym : Nd.census_table_sym TDrawTree := ⟨inferInstance⟩
theorem nt_census_table_end : Nd.census_table_end TDrawTree := ⟨inferInstance, nt_census_table_sym⟩
theorem nt_census_table_find : Nd.census_table_find TDrawTree := ⟨inferInstance, nt_census_table_end⟩
theorem nt_census_table_same : Nd.census_table_same TDrawTree := ⟨inferInstance, nt_census_rows_bool, nt_census_table_sym⟩
theorem nt_census_table_endless : Nd.census_table_endless TDrawTree := ⟨inferInstance, nt_census_table_sym⟩
theorem nt_census_table_loops : Nd.census_table_loops TDrawTree := ⟨inferInstance, nt_census_table_same, nt_census_table_endless⟩
theorem nt_census_table_count : Nd.census_table_count TDrawTree := ⟨inferInstance, inferInstance, nt_census_table_sym⟩
theorem nt_census_Trees : Nd.census_Trees TDrawTree := ⟨inferInstance, nt_gram_Check, nt_census_newTable, nt_census_table_find, nt_census_table_loops, nt_census_table_count⟩
theorem nt_rank_open : Nd.rank_open TDrawTree := ⟨inferInstance, nt_census_Trees⟩
theorem nt_rank_Count : Nd.rank_Count TDrawTree := ⟨inferInstance, nt_rank_open⟩
theorem nt_draw_Number : Nd.draw_Number TDrawTree := ⟨inferInstance⟩
theorem nt_rank_book_sym : Nd.rank_book_sym TDrawTree := ⟨inferInstance⟩
theorem nt_rank_book_ways : Nd.rank_book_ways TDrawTree := ⟨inferInstance, inferInstance, nt_rank_book_sym⟩
theorem nt_rank_book_part : Nd.rank_book_part TDrawTree := nt_rank_book_ways
theorem nt_rank_book_tree : Nd.rank_book_tree TDrawTree := ⟨inferInstance, inferInstance, nt_rank_book_ways, nt_rank_book_part⟩
theorem nt_rank_Tree : Nd.rank_Tree TDrawTree := ⟨inferInstance, nt_rank_open, nt_rank_book_tree⟩
theorem nt_draw_Tree : Nd.draw_Tree TDrawTree := ⟨inferInstance, nt_rank_Count, nt_draw_Number, nt_rank_Tree⟩
theorem nt_tree_leaf : Nd.tree_leaf TDrawTree := ⟨inferInstance⟩
theorem nt_tree_Size : Nd.tree_Size TDrawTree := ⟨inferInstance, nt_tree_leaf⟩
theorem nt_tree_symbol : Nd.tree_symbol TDrawTree := ⟨inferInstance, nt_tree_leaf⟩
theorem nt_tree_valid : Nd.tree_valid TDrawTree := ⟨inferInstance, nt_tree_symbol, nt_tree_leaf⟩
theorem nt_tree_Check : Nd.tree_Check TDrawTree := ⟨inferInstance, nt_gram_Check, nt_tree_Size, nt_tree_valid⟩
theorem nt_tree_word : Nd.tree_word TDrawTree := ⟨inferInstance, nt_tree_leaf⟩
theorem nt_tree_Word : Nd.tree_Word TDrawTree := ⟨inferInstance, nt_tree_word⟩
theorem nt_tree_rules : Nd.tree_rules TDrawTree := ⟨inferInstance, nt_tree_leaf⟩
theorem nt_slices_Compare_int_int : Nd.slices_Compare_int_int TDrawTree := ⟨inferInstance, nt_cmp_Compare_int⟩
theorem nt_tree_Compare : Nd.tree_Compare TDrawTree := ⟨inferInstance, nt_tree_Size, nt_cmp_Compare_int, nt_tree_rules, nt_slices_Compare_int_int, nt_tree_Word⟩
theorem nt_parlkeep5_DrawTree : Nd.parlkeep5_DrawTree TDrawTree := ⟨inferInstance, nt_parlmake_Grammar, nt_parlkeep5_below, nt_parlkeep5_plain, nt_draw_Tree, nt_rank_Count, nt_draw_Number, nt_rank_Tree, nt_tree_Check, nt_tree_Word, nt_tree_Compare⟩
theorem drawTree_law {H : Hp} {w1 : Value} {a0 : (List Int)} (h1 : Rd H w1 (a0.map vi)) (l1 : a0.length ≤ 17592186044416) (a1 : Int) {w2 : Value} {a2 : (List Bool)} (h2 : Rd H w2 (a2.map .bool)) (l2 : a2.length ≤ 140737488355328) : G TDrawTree I.parlkeep5_DrawTree [w1, vi a1, w2] H (fun r _ => r = .bool true) := by
 obtain ⟨φ, hφ⟩ := Gr.drawTree_plain a0 a1 a2 l2
 exact law_of (X.parlkeep5_DrawTree nt_parlkeep5_DrawTree (φ := φ) (Sat.nil (PH.le.refl _) (PH.le.refl _)) (rds_int h1 l1) (rds_bool h2 l2) hφ) rfl
end Go.Proofs.Ytmeigkelacoibaa
