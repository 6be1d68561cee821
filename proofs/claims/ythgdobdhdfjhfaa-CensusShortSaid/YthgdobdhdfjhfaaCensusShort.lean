/- The law CensusShort of the abstract code, printed by wip/tools/fin.py. Own work. -/
import Derived.Test.YthgdobdhdfjhfaaSl10
import Derived.Test.YthgdobdhdfjhfaaX
import Derived.Test.YthgdobdhdfjhfaaTCensusShort
import Derived.Test.YthgdobdhdfjhfaaQCensusShort
namespace Go.Proofs.Ythgdobdhdfjhfaa
open Go Go.Ab
theorem nt_parlmake_Below : Nd.parlmake_Below TCensusShort := ⟨inferInstance⟩
theorem nt_parlmake_stream_next : Nd.parlmake_stream_next TCensusShort := ⟨inferInstance, nt_parlmake_Below⟩
theorem nt_parlmake_has : Nd.parlmake_has TCensusShort := ⟨inferInstance⟩
theorem nt_parlmake_Grammar : Nd.parlmake_Grammar TCensusShort := ⟨inferInstance, nt_parlmake_stream_next, nt_parlmake_has⟩
theorem nt_parlkeep5_below : Nd.parlkeep5_below TCensusShort := ⟨inferInstance, nt_parlmake_Below⟩
theorem nt_cmp_isNaN_int : Nd.cmp_isNaN_int TCensusShort := ⟨inferInstance⟩
theorem nt_cmp_Compare_int : Nd.cmp_Compare_int TCensusShort := ⟨inferInstance, nt_cmp_isNaN_int⟩
theorem nt_gram_Order : Nd.gram_Order TCensusShort := ⟨inferInstance, nt_cmp_Compare_int⟩
theorem nt_slices_CompareFunc_api_Sym_api_Sym_api_Sym_api_Sym__gram_Order : Nd.slices_CompareFunc_api_Sym_api_Sym_api_Sym_api_Sym__gram_Order TCensusShort := ⟨inferInstance, nt_gram_Order⟩
theorem nt_gram_Compare : Nd.gram_Compare TCensusShort := ⟨inferInstance, nt_cmp_Compare_int, nt_slices_CompareFunc_api_Sym_api_Sym_api_Sym_api_Sym__gram_Order⟩
theorem nt_gram_Check : Nd.gram_Check TCensusShort := ⟨inferInstance, nt_gram_Compare⟩
theorem nt_census_rows_bool : Nd.census_rows_bool TCensusShort := ⟨inferInstance⟩
theorem nt_census_rows_int : Nd.census_rows_int TCensusShort := ⟨inferInstance⟩
theorem nt_census_newTable : Nd.census_newTable TCensusShort := ⟨inferInstance, nt_census_rows_bool, nt_census_rows_int⟩
theorem nt_census_table_sym : Nd.census_table_sym TCensusShort := ⟨inferInstance⟩
theorem nt_census_table_end : Nd.census_table_end TCensusShort := ⟨inferInstance, nt_census_table_sym⟩
theorem nt_census_table_find : Nd.census_table_find TCensusShort := ⟨inferInstance, nt_census_table_end⟩
theorem nt_census_table_same : Nd.census_table_same TCensusShort := ⟨inferInstance, nt_census_rows_bool, nt_census_table_sym⟩
theorem nt_census_table_endless : Nd.census_table_endless TCensusShort := ⟨inferInstance, nt_census_table_sym⟩
theorem nt_census_table_loops : Nd.census_table_loops TCensusShort := ⟨inferInstance, nt_census_table_same, nt_census_table_endless⟩
theorem nt_census_table_count : Nd.census_table_count TCensusShort := ⟨inferInstance, inferInstance, nt_census_table_sym⟩
theorem nt_census_Trees : Nd.census_Trees TCensusShort := ⟨inferInstance, nt_gram_Check, nt_census_newTable, nt_census_table_find, nt_census_table_loops, nt_census_table_count⟩
theorem nt_parlkeep5_plain : Nd.parlkeep5_plain TCensusShort := ⟨inferInstance⟩
theorem nt_census_Total : Nd.census_Total TCensusShort := ⟨inferInstance, nt_census_Trees⟩
theorem nt_parlkeep5_counts : Nd.parlkeep5_counts TCensusShort := ⟨inferInstance, nt_parlkeep5_plain, nt_census_Total⟩
theorem nt_slices_Equal_int_int : Nd.slices_Equal_int_int TCensusShort := ⟨inferInstance⟩
theorem nt_parlkeep5_CensusShort : Nd.parlkeep5_CensusShort TCensusShort := ⟨inferInstance, nt_parlmake_Grammar, nt_parlkeep5_below, nt_census_Trees, nt_parlkeep5_counts, nt_slices_Equal_int_int⟩
theorem censusShort_law {H : Hp} {w1 : Value} {a0 : (List Int)} (h1 : Rd H w1 (a0.map vi)) (l1 : a0.length ≤ 17592186044416) (a1 : Int) : G TCensusShort I.parlkeep5_CensusShort [w1, vi a1] H (fun r _ => r = .bool true) :=
  law_of (X.parlkeep5_CensusShort nt_parlkeep5_CensusShort (φ := 1000000000) (Sat.nil (PH.le.refl _) (PH.le.refl _)) (rds_int h1 l1) (Gr.censusShort_plain a0 a1)) rfl
end Go.Proofs.Ythgdobdhdfjhfaa
