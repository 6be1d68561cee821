import Derived.Test.YtmeigkelacoibaaSl10
import Derived.Test.YtmeigkelacoibaaX
import Derived.Test.YtmeigkelacoibaaTRankTrees
import Derived.Test.YtmeigkelacoibaaQRankTrees
namespace Go.Proofs.Ytmeigkelacoibaa
open Go Go.Ab
theorem nt_parlmake_Below : Nd.E3 A5 := ⟨inferInstance⟩
theorem nt_parlmake_stream_next : Nd.A8 A5 := ⟨inferInstance, nt_parlmake_Below⟩
theorem nt_parlmake_has : Nd.D2 A5 := ⟨inferInstance⟩
theorem nt_parlmake_Grammar : Nd.B9 A5 := ⟨inferInstance, nt_parlmake_stream_next, nt_parlmake_has⟩
theorem nt_parlkeep5_below : Nd.F3 A5 := ⟨inferInstance, nt_parlmake_Below⟩
theorem nt_parlkeep5_plain : Nd.F4 A5 := ⟨inferInstance⟩
theorem nt_cmp_isNaN_int : Nd.F7 A5 := ⟨inferInstance⟩
theorem nt_cmp_Compare_int : Nd.C2 A5 := ⟨inferInstance, nt_cmp_isNaN_int⟩
theorem nt_gram_Order : Nd.F6 A5 := ⟨inferInstance, nt_cmp_Compare_int⟩
theorem nt_slices_CompareFunc_api_Sym_api_Sym_api_Sym_api_Sym__gram_Order : Nd.C1 A5 := ⟨inferInstance, nt_gram_Order⟩
theorem nt_gram_Compare : Nd.F5 A5 := ⟨inferInstance, nt_cmp_Compare_int, nt_slices_CompareFunc_api_Sym_api_Sym_api_Sym_api_Sym__gram_Order⟩
theorem nt_gram_Check : Nd.C4 A5 := ⟨inferInstance, nt_gram_Compare⟩
theorem nt_census_rows_bool : Nd.B5 A5 := ⟨inferInstance⟩
theorem nt_census_rows_int : Nd.C7 A5 := ⟨inferInstance⟩
theorem nt_census_newTable : Nd.D5 A5 := ⟨inferInstance, nt_census_rows_bool, nt_census_rows_int⟩
theorem nt_census_table_sym : Nd.D0 A5 := ⟨inferInstance⟩
theorem nt_census_table_end : Nd.B7 A5 := ⟨inferInstance, nt_census_table_sym⟩
theorem nt_census_table_find : Nd.B4 A5 := ⟨inferInstance, nt_census_table_end⟩
theorem nt_census_table_same : Nd.A9 A5 := ⟨inferInstance, nt_census_rows_bool, nt_census_table_sym⟩
theorem nt_census_table_endless : Nd.B3 A5 := ⟨inferInstance, nt_census_table_sym⟩
theorem nt_census_table_loops : Nd.A1 A5 := ⟨inferInstance, nt_census_table_same, nt_census_table_endless⟩
theorem nt_census_table_count : Nd.B1 A5 := ⟨inferInstance, inferInstance, nt_census_table_sym⟩
theorem nt_census_Trees : Nd.C6 A5 := ⟨inferInstance, nt_gram_Check, nt_census_newTable, nt_census_table_find, nt_census_table_loops, nt_census_table_count⟩
theorem nt_rank_open : Nd.E8 A5 := ⟨inferInstance, nt_census_Trees⟩
theorem nt_rank_Count : Nd.G0 A5 := ⟨inferInstance, nt_rank_open⟩
theorem nt_rank_book_sym : Nd.F0 A5 := ⟨inferInstance⟩
theorem nt_rank_book_ways : Nd.C0 A5 := ⟨inferInstance, inferInstance, nt_rank_book_sym⟩
theorem nt_rank_book_part : Nd.E1 A5 := nt_rank_book_ways
theorem nt_rank_book_tree : Nd.C8 A5 := ⟨inferInstance, inferInstance, nt_rank_book_ways, nt_rank_book_part⟩
theorem nt_rank_Tree : Nd.G1 A5 := ⟨inferInstance, nt_rank_open, nt_rank_book_tree⟩
theorem nt_tree_leaf : Nd.E4 A5 := ⟨inferInstance⟩
theorem nt_tree_Size : Nd.D8 A5 := ⟨inferInstance, nt_tree_leaf⟩
theorem nt_tree_symbol : Nd.F1 A5 := ⟨inferInstance, nt_tree_leaf⟩
theorem nt_tree_valid : Nd.D9 A5 := ⟨inferInstance, nt_tree_symbol, nt_tree_leaf⟩
theorem nt_tree_Check : Nd.F2 A5 := ⟨inferInstance, nt_gram_Check, nt_tree_Size, nt_tree_valid⟩
theorem nt_tree_word : Nd.E7 A5 := ⟨inferInstance, nt_tree_leaf⟩
theorem nt_tree_Word : Nd.F9 A5 := ⟨inferInstance, nt_tree_word⟩
theorem nt_tree_rules : Nd.D7 A5 := ⟨inferInstance, nt_tree_leaf⟩
theorem nt_slices_Compare_int_int : Nd.B0 A5 := ⟨inferInstance, nt_cmp_Compare_int⟩
theorem nt_tree_Compare : Nd.E5 A5 := ⟨inferInstance, nt_tree_Size, nt_cmp_Compare_int, nt_tree_rules, nt_slices_Compare_int_int, nt_tree_Word⟩
theorem nt_parlmake_tree : Nd.B6 A5 := ⟨inferInstance, nt_parlmake_stream_next⟩
theorem nt_parlmake_Tree : Nd.F8 A5 := ⟨inferInstance, nt_parlmake_tree⟩
theorem nt_parlkeep5_RankTrees_1 : Nd.D6 A5 := ⟨inferInstance, nt_tree_Compare⟩
theorem nt_slices_IndexFunc_api_Tree_api_Tree__parlkeep5_RankTrees_1 : Nd.C9 A5 := ⟨inferInstance, nt_parlkeep5_RankTrees_1⟩
theorem nt_slices_ContainsFunc_api_Tree_api_Tree__parlkeep5_RankTrees_1 : Nd.D3 A5 := ⟨inferInstance, nt_slices_IndexFunc_api_Tree_api_Tree__parlkeep5_RankTrees_1⟩
theorem nt_parlkeep5_RankTrees : Nd.A7 A5 := ⟨inferInstance, nt_parlmake_Grammar, nt_parlkeep5_below, nt_parlkeep5_plain, nt_rank_Count, nt_rank_Tree, nt_tree_Check, nt_tree_Word, nt_tree_Compare, nt_parlmake_Tree, nt_slices_ContainsFunc_api_Tree_api_Tree__parlkeep5_RankTrees_1⟩
theorem rankTrees_law {H : Hp} {w1 : Value} {a0 : (List Int)} (h1 : Rd H w1 (a0.map vi)) (l1 : a0.length ≤ 17592186044416) {w2 : Value} {a1 : (List Int)} (h2 : Rd H w2 (a1.map vi)) (l2 : a1.length ≤ 17592186044416) (a2 : Int) : G A5 I.A7 [w1, w2, vi a2] H (fun r _ => r = .bool true) := by
 obtain ⟨φ, hφ⟩ := Gr.rankTrees_plain a0 a1 a2
 exact law_of (X.A7 nt_parlkeep5_RankTrees (φ := φ) (Sat.nil (PH.le.refl _) (PH.le.refl _)) (rds_int h1 l1) (rds_int h2 l2) hφ) rfl
end Go.Proofs.Ytmeigkelacoibaa
