/- The law RankFirst of the abstract code, printed by wip/tools/fin.py. Own work. -/
import Derived.Test.YthgdobdhdfjhfaaSl10
import Derived.Test.YthgdobdhdfjhfaaX
import Derived.Test.YthgdobdhdfjhfaaTRankFirst
import Derived.Test.YthgdobdhdfjhfaaQRankFirst
namespace Go.Proofs.Ythgdobdhdfjhfaa
open Go Go.Ab
theorem nt_parlmake_Below : Nd.parlmake_Below TRankFirst := ⟨inferInstance⟩
theorem nt_parlmake_stream_next : Nd.parlmake_stream_next TRankFirst := ⟨inferInstance, nt_parlmake_Below⟩
theorem nt_parlmake_has : Nd.parlmake_has TRankFirst := ⟨inferInstance⟩
theorem nt_parlmake_Grammar : Nd.parlmake_Grammar TRankFirst := ⟨inferInstance, nt_parlmake_stream_next, nt_parlmake_has⟩
theorem nt_parlkeep5_below : Nd.parlkeep5_below TRankFirst := ⟨inferInstance, nt_parlmake_Below⟩
theorem nt_parlkeep5_plain : Nd.parlkeep5_plain TRankFirst := ⟨inferInstance⟩
theorem nt_cmp_isNaN_int : Nd.cmp_isNaN_int TRankFirst := ⟨inferInstance⟩
theorem nt_cmp_Compare_int : Nd.cmp_Compare_int TRankFirst := ⟨inferInstance, nt_cmp_isNaN_int⟩
theorem nt_gram_Order : Nd.gram_Order TRankFirst := ⟨inferInstance, nt_cmp_Compare_int⟩
theorem nt_slices_CompareFunc_api_Sym_api_Sym_api_Sym_api_Sym__gram_Order : Nd.slices_CompareFunc_api_Sym_api_Sym_api_Sym_api_Sym__gram_Order TRankFirst := ⟨inferInstance, nt_gram_Order⟩
theorem nt_gram_Compare : Nd.gram_Compare TRankFirst := ⟨inferInstance, nt_cmp_Compare_int, nt_slices_CompareFunc_api_Sym_api_Sym_api_Sym_api_Sym__gram_Order⟩
theorem nt_gram_Check : Nd.gram_Check TRankFirst := ⟨inferInstance, nt_gram_Compare⟩
theorem nt_census_rows_bool : Nd.census_rows_bool TRankFirst := ⟨inferInstance⟩
theorem nt_census_rows_int : Nd.census_rows_int TRankFirst := ⟨inferInstance⟩
theorem nt_census_newTable : Nd.census_newTable TRankFirst := ⟨inferInstance, nt_census_rows_bool, nt_census_rows_int⟩
theorem nt_census_table_sym : Nd.census_table_sym TRankFirst := ⟨inferInstance⟩
theorem nt_census_table_end : Nd.census_table_end TRankFirst := ⟨inferInstance, nt_census_table_sym⟩
theorem nt_census_table_find : Nd.census_table_find TRankFirst := ⟨inferInstance, nt_census_table_end⟩
theorem nt_census_table_same : Nd.census_table_same TRankFirst := ⟨inferInstance, nt_census_rows_bool, nt_census_table_sym⟩
theorem nt_census_table_endless : Nd.census_table_endless TRankFirst := ⟨inferInstance, nt_census_table_sym⟩
theorem nt_census_table_loops : Nd.census_table_loops TRankFirst := ⟨inferInstance, nt_census_table_same, nt_census_table_endless⟩
theorem nt_census_table_count : Nd.census_table_count TRankFirst := ⟨inferInstance, inferInstance, nt_census_table_sym⟩
theorem nt_census_Trees : Nd.census_Trees TRankFirst := ⟨inferInstance, nt_gram_Check, nt_census_newTable, nt_census_table_find, nt_census_table_loops, nt_census_table_count⟩
theorem nt_rank_open : Nd.rank_open TRankFirst := ⟨inferInstance, nt_census_Trees⟩
theorem nt_rank_Count : Nd.rank_Count TRankFirst := ⟨inferInstance, nt_rank_open⟩
theorem nt_rank_book_sym : Nd.rank_book_sym TRankFirst := ⟨inferInstance⟩
theorem nt_rank_book_ways : Nd.rank_book_ways TRankFirst := ⟨inferInstance, inferInstance, nt_rank_book_sym⟩
theorem nt_rank_book_part : Nd.rank_book_part TRankFirst := nt_rank_book_ways
theorem nt_rank_book_tree : Nd.rank_book_tree TRankFirst := ⟨inferInstance, inferInstance, nt_rank_book_ways, nt_rank_book_part⟩
theorem nt_rank_Tree : Nd.rank_Tree TRankFirst := ⟨inferInstance, nt_rank_open, nt_rank_book_tree⟩
theorem nt_parlkeep5_RankFirst : Nd.parlkeep5_RankFirst TRankFirst := ⟨inferInstance, nt_parlmake_Grammar, nt_parlkeep5_below, nt_parlkeep5_plain, nt_rank_Count, nt_rank_Tree⟩
theorem rankFirst_law {H : Hp} {w1 : Value} {a0 : (List Int)} (h1 : Rd H w1 (a0.map vi)) (l1 : a0.length ≤ 17592186044416) (a1 : Int) (a2 : Int) : G TRankFirst I.parlkeep5_RankFirst [w1, vi a1, vi a2] H (fun r _ => r = .bool true) := by
  obtain ⟨φ, hφ⟩ := Gr.rankFirst_plain a0 a1 a2
  exact law_of (X.parlkeep5_RankFirst nt_parlkeep5_RankFirst (φ := φ) (Sat.nil (PH.le.refl _) (PH.le.refl _)) (rds_int h1 l1) hφ) rfl
end Go.Proofs.Ythgdobdhdfjhfaa
