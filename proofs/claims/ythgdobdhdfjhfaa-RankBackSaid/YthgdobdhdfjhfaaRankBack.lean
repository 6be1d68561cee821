import Derived.Test.YthgdobdhdfjhfaaSl10
import Derived.Test.YthgdobdhdfjhfaaX
import Derived.Test.YthgdobdhdfjhfaaTRankBack
import Derived.Test.YthgdobdhdfjhfaaQRankBack
namespace Go.Proofs.Ythgdobdhdfjhfaa
open Go Go.Ab
theorem nt_parlmake_Below : Nd.parlmake_Below TRankBack := ⟨inferInstance⟩
theorem nt_parlmake_stream_next : Nd.parlmake_stream_next TRankBack := ⟨inferInstance, nt_parlmake_Below⟩
theorem nt_parlmake_has : Nd.parlmake_has TRankBack := ⟨inferInstance⟩
theorem nt_parlmake_Grammar : Nd.parlmake_Grammar TRankBack := ⟨inferInstance, nt_parlmake_stream_next, nt_parlmake_has⟩
theorem nt_parlkeep5_below : Nd.parlkeep5_below TRankBack := ⟨inferInstance, nt_parlmake_Below⟩
theorem nt_parlkeep5_plain : Nd.parlkeep5_plain TRankBack := ⟨inferInstance⟩
theorem nt_cmp_isNaN_int : Nd.cmp_isNaN_int TRankBack := ⟨inferInstance⟩
theorem nt_cmp_Compare_int : Nd.cmp_Compare_int TRankBack := ⟨inferInstance, nt_cmp_isNaN_int⟩
theorem nt_gram_Order : Nd.gram_Order TRankBack := ⟨inferInstance, nt_cmp_Compare_int⟩
theorem nt_slices_CompareFunc_api_Sym_api_Sym_api_Sym_api_Sym__gram_Order : Nd.slices_CompareFunc_api_Sym_api_Sym_api_Sym_api_Sym__gram_Order TRankBack := ⟨inferInstance, nt_gram_Order⟩
theorem nt_gram_Compare : Nd.gram_Compare TRankBack := ⟨inferInstance, nt_cmp_Compare_int, nt_slices_CompareFunc_api_Sym_api_Sym_api_Sym_api_Sym__gram_Order⟩
theorem nt_gram_Check : Nd.gram_Check TRankBack := ⟨inferInstance, nt_gram_Compare⟩
theorem nt_census_rows_bool : Nd.census_rows_bool TRankBack := ⟨inferInstance⟩
theorem nt_census_rows_int : Nd.census_rows_int TRankBack := ⟨inferInstance⟩
theorem nt_census_newTable : Nd.census_newTable TRankBack := ⟨inferInstance, nt_census_rows_bool, nt_census_rows_int⟩
theorem nt_census_table_sym : Nd.census_table_sym TRankBack := ⟨inferInstance⟩
theorem nt_census_table_end : Nd.census_table_end TRankBack := ⟨inferInstance, nt_census_table_sym⟩
theorem nt_census_table_find : Nd.census_table_find TRankBack := ⟨inferInstance, nt_census_table_end⟩
theorem nt_census_table_same : Nd.census_table_same TRankBack := ⟨inferInstance, nt_census_rows_bool, nt_census_table_sym⟩
theorem nt_census_table_endless : Nd.census_table_endless TRankBack := ⟨inferInstance, nt_census_table_sym⟩
theorem nt_census_table_loops : Nd.census_table_loops TRankBack := ⟨inferInstance, nt_census_table_same, nt_census_table_endless⟩
theorem nt_census_table_count : Nd.census_table_count TRankBack := ⟨inferInstance, inferInstance, nt_census_table_sym⟩
theorem nt_census_Trees : Nd.census_Trees TRankBack := ⟨inferInstance, nt_gram_Check, nt_census_newTable, nt_census_table_find, nt_census_table_loops, nt_census_table_count⟩
theorem nt_rank_open : Nd.rank_open TRankBack := ⟨inferInstance, nt_census_Trees⟩
theorem nt_rank_Count : Nd.rank_Count TRankBack := ⟨inferInstance, nt_rank_open⟩
theorem nt_rank_book_sym : Nd.rank_book_sym TRankBack := ⟨inferInstance⟩
theorem nt_rank_book_ways : Nd.rank_book_ways TRankBack := ⟨inferInstance, inferInstance, nt_rank_book_sym⟩
theorem nt_rank_book_part : Nd.rank_book_part TRankBack := nt_rank_book_ways
theorem nt_rank_book_tree : Nd.rank_book_tree TRankBack := ⟨inferInstance, inferInstance, nt_rank_book_ways, nt_rank_book_part⟩
theorem nt_rank_Tree : Nd.rank_Tree TRankBack := ⟨inferInstance, nt_rank_open, nt_rank_book_tree⟩
theorem nt_tree_leaf : Nd.tree_leaf TRankBack := ⟨inferInstance⟩
theorem nt_tree_Size : Nd.tree_Size TRankBack := ⟨inferInstance, nt_tree_leaf⟩
theorem nt_tree_symbol : Nd.tree_symbol TRankBack := ⟨inferInstance, nt_tree_leaf⟩
theorem nt_tree_valid : Nd.tree_valid TRankBack := ⟨inferInstance, nt_tree_symbol, nt_tree_leaf⟩
theorem nt_tree_Check : Nd.tree_Check TRankBack := ⟨inferInstance, nt_gram_Check, nt_tree_Size, nt_tree_valid⟩
theorem nt_tree_word : Nd.tree_word TRankBack := ⟨inferInstance, nt_tree_leaf⟩
theorem nt_tree_Word : Nd.tree_Word TRankBack := ⟨inferInstance, nt_tree_word⟩
theorem nt_rank_book_of : Nd.rank_book_of TRankBack := ⟨inferInstance, inferInstance, nt_rank_book_ways, nt_tree_Word, nt_rank_book_part⟩
theorem nt_rank_Of : Nd.rank_Of TRankBack := ⟨inferInstance, nt_tree_Check, nt_tree_Word, nt_rank_open, nt_rank_book_of⟩
theorem nt_parlkeep5_RankBack : Nd.parlkeep5_RankBack TRankBack := ⟨inferInstance, nt_parlmake_Grammar, nt_parlkeep5_below, nt_parlkeep5_plain, nt_rank_Count, nt_rank_Tree, nt_tree_Check, nt_rank_Of⟩
theorem rankBack_law {H : Hp} {w1 : Value} {a0 : (List Int)} (h1 : Rd H w1 (a0.map vi)) (l1 : a0.length ≤ 17592186044416) (a1 : Int) (a2 : Int) : G TRankBack I.parlkeep5_RankBack [w1, vi a1, vi a2] H (fun r _ => r = .bool true) := by
 obtain ⟨φ, hφ⟩ := Gr.rankBack_plain a0 a1 a2
 exact law_of (X.parlkeep5_RankBack nt_parlkeep5_RankBack (φ := φ) (Sat.nil (PH.le.refl _) (PH.le.refl _)) (rds_int h1 l1) hφ) rfl
end Go.Proofs.Ythgdobdhdfjhfaa
