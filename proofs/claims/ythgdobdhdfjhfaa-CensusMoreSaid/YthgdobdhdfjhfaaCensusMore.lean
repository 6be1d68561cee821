/- The law CensusMore of the abstract code, printed by wip/tools/fin.py. Own work. -/
import Derived.Test.YthgdobdhdfjhfaaSl10
import Derived.Test.YthgdobdhdfjhfaaX
import Derived.Test.YthgdobdhdfjhfaaTCensusMore
import Derived.Test.YthgdobdhdfjhfaaQCensusMore
namespace Go.Proofs.Ythgdobdhdfjhfaa
open Go Go.Ab
theorem nt_parlmake_Below : Nd.parlmake_Below TCensusMore := ⟨inferInstance⟩
theorem nt_parlmake_stream_next : Nd.parlmake_stream_next TCensusMore := ⟨inferInstance, nt_parlmake_Below⟩
theorem nt_parlmake_has : Nd.parlmake_has TCensusMore := ⟨inferInstance⟩
theorem nt_parlmake_Grammar : Nd.parlmake_Grammar TCensusMore := ⟨inferInstance, nt_parlmake_stream_next, nt_parlmake_has⟩
theorem nt_parlkeep5_below : Nd.parlkeep5_below TCensusMore := ⟨inferInstance, nt_parlmake_Below⟩
theorem nt_slices_Grow_api_Rule_api_Rule__nil : Nd.slices_Grow_api_Rule_api_Rule__nil TCensusMore := ⟨inferInstance⟩
theorem nt_slices_Concat_api_Rule_api_Rule : Nd.slices_Concat_api_Rule_api_Rule TCensusMore := ⟨inferInstance, nt_slices_Grow_api_Rule_api_Rule__nil⟩
theorem nt_cmp_isNaN_int : Nd.cmp_isNaN_int TCensusMore := ⟨inferInstance⟩
theorem nt_cmp_Compare_int : Nd.cmp_Compare_int TCensusMore := ⟨inferInstance, nt_cmp_isNaN_int⟩
theorem nt_gram_Order : Nd.gram_Order TCensusMore := ⟨inferInstance, nt_cmp_Compare_int⟩
theorem nt_slices_CompareFunc_api_Sym_api_Sym_api_Sym_api_Sym__gram_Order : Nd.slices_CompareFunc_api_Sym_api_Sym_api_Sym_api_Sym__gram_Order TCensusMore := ⟨inferInstance, nt_gram_Order⟩
theorem nt_gram_Compare : Nd.gram_Compare TCensusMore := ⟨inferInstance, nt_cmp_Compare_int, nt_slices_CompareFunc_api_Sym_api_Sym_api_Sym_api_Sym__gram_Order⟩
theorem nt_gram_Check : Nd.gram_Check TCensusMore := ⟨inferInstance, nt_gram_Compare⟩
theorem nt_census_rows_bool : Nd.census_rows_bool TCensusMore := ⟨inferInstance⟩
theorem nt_census_rows_int : Nd.census_rows_int TCensusMore := ⟨inferInstance⟩
theorem nt_census_newTable : Nd.census_newTable TCensusMore := ⟨inferInstance, nt_census_rows_bool, nt_census_rows_int⟩
theorem nt_census_table_sym : Nd.census_table_sym TCensusMore := ⟨inferInstance⟩
theorem nt_census_table_end : Nd.census_table_end TCensusMore := ⟨inferInstance, nt_census_table_sym⟩
theorem nt_census_table_find : Nd.census_table_find TCensusMore := ⟨inferInstance, nt_census_table_end⟩
theorem nt_census_table_same : Nd.census_table_same TCensusMore := ⟨inferInstance, nt_census_rows_bool, nt_census_table_sym⟩
theorem nt_census_table_endless : Nd.census_table_endless TCensusMore := ⟨inferInstance, nt_census_table_sym⟩
theorem nt_census_table_loops : Nd.census_table_loops TCensusMore := ⟨inferInstance, nt_census_table_same, nt_census_table_endless⟩
theorem nt_census_table_count : Nd.census_table_count TCensusMore := ⟨inferInstance, inferInstance, nt_census_table_sym⟩
theorem nt_census_Trees : Nd.census_Trees TCensusMore := ⟨inferInstance, nt_gram_Check, nt_census_newTable, nt_census_table_find, nt_census_table_loops, nt_census_table_count⟩
theorem nt_parlkeep5_plain : Nd.parlkeep5_plain TCensusMore := ⟨inferInstance⟩
theorem nt_census_Total : Nd.census_Total TCensusMore := ⟨inferInstance, nt_census_Trees⟩
theorem nt_parlkeep5_counts : Nd.parlkeep5_counts TCensusMore := ⟨inferInstance, nt_parlkeep5_plain, nt_census_Total⟩
theorem nt_parlkeep5_CensusMore : Nd.parlkeep5_CensusMore TCensusMore := ⟨inferInstance, nt_parlmake_Grammar, nt_parlkeep5_below, nt_slices_Concat_api_Rule_api_Rule, nt_census_Trees, nt_parlkeep5_counts⟩
theorem censusMore_law {H : Hp} {w1 : Value} {a0 : (List Int)} (h1 : Rd H w1 (a0.map vi)) (l1 : a0.length ≤ 17592186044416) (a1 : Int) (a2 : Int) : G TCensusMore I.parlkeep5_CensusMore [w1, vi a1, vi a2] H (fun r _ => r = .bool true) :=
  law_of (X.parlkeep5_CensusMore nt_parlkeep5_CensusMore (φ := 1000000000) (Sat.nil (PH.le.refl _) (PH.le.refl _)) (rds_int h1 l1) (Gr.censusMore_plain a0 a1 a2)) rfl
end Go.Proofs.Ythgdobdhdfjhfaa
