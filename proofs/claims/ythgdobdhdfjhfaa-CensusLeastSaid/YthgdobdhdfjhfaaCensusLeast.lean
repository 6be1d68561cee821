/- The law CensusLeast of the abstract code, printed by wip/tools/fin.py. Own work. -/
import Derived.Test.YthgdobdhdfjhfaaSl10
import Derived.Test.YthgdobdhdfjhfaaX
import Derived.Test.YthgdobdhdfjhfaaTCensusLeast
import Derived.Test.YthgdobdhdfjhfaaQCensusLeast
namespace Go.Proofs.Ythgdobdhdfjhfaa
open Go Go.Ab
theorem nt_parlmake_Below : Nd.parlmake_Below TCensusLeast := ⟨inferInstance⟩
theorem nt_parlmake_stream_next : Nd.parlmake_stream_next TCensusLeast := ⟨inferInstance, nt_parlmake_Below⟩
theorem nt_parlmake_has : Nd.parlmake_has TCensusLeast := ⟨inferInstance⟩
theorem nt_parlmake_Grammar : Nd.parlmake_Grammar TCensusLeast := ⟨inferInstance, nt_parlmake_stream_next, nt_parlmake_has⟩
theorem nt_cmp_isNaN_int : Nd.cmp_isNaN_int TCensusLeast := ⟨inferInstance⟩
theorem nt_cmp_Compare_int : Nd.cmp_Compare_int TCensusLeast := ⟨inferInstance, nt_cmp_isNaN_int⟩
theorem nt_gram_Order : Nd.gram_Order TCensusLeast := ⟨inferInstance, nt_cmp_Compare_int⟩
theorem nt_slices_CompareFunc_api_Sym_api_Sym_api_Sym_api_Sym__gram_Order : Nd.slices_CompareFunc_api_Sym_api_Sym_api_Sym_api_Sym__gram_Order TCensusLeast := ⟨inferInstance, nt_gram_Order⟩
theorem nt_gram_Compare : Nd.gram_Compare TCensusLeast := ⟨inferInstance, nt_cmp_Compare_int, nt_slices_CompareFunc_api_Sym_api_Sym_api_Sym_api_Sym__gram_Order⟩
theorem nt_gram_Check : Nd.gram_Check TCensusLeast := ⟨inferInstance, nt_gram_Compare⟩
theorem nt_census_shortest : Nd.census_shortest TCensusLeast := ⟨inferInstance⟩
theorem nt_census_Least : Nd.census_Least TCensusLeast := ⟨inferInstance, nt_gram_Check, nt_census_shortest⟩
theorem nt_census_rows_bool : Nd.census_rows_bool TCensusLeast := ⟨inferInstance⟩
theorem nt_census_rows_int : Nd.census_rows_int TCensusLeast := ⟨inferInstance⟩
theorem nt_census_newTable : Nd.census_newTable TCensusLeast := ⟨inferInstance, nt_census_rows_bool, nt_census_rows_int⟩
theorem nt_census_table_sym : Nd.census_table_sym TCensusLeast := ⟨inferInstance⟩
theorem nt_census_table_end : Nd.census_table_end TCensusLeast := ⟨inferInstance, nt_census_table_sym⟩
theorem nt_census_table_find : Nd.census_table_find TCensusLeast := ⟨inferInstance, nt_census_table_end⟩
theorem nt_census_table_same : Nd.census_table_same TCensusLeast := ⟨inferInstance, nt_census_rows_bool, nt_census_table_sym⟩
theorem nt_census_table_endless : Nd.census_table_endless TCensusLeast := ⟨inferInstance, nt_census_table_sym⟩
theorem nt_census_table_loops : Nd.census_table_loops TCensusLeast := ⟨inferInstance, nt_census_table_same, nt_census_table_endless⟩
theorem nt_census_table_count : Nd.census_table_count TCensusLeast := ⟨inferInstance, inferInstance, nt_census_table_sym⟩
theorem nt_census_Trees : Nd.census_Trees TCensusLeast := ⟨inferInstance, nt_gram_Check, nt_census_newTable, nt_census_table_find, nt_census_table_loops, nt_census_table_count⟩
theorem nt_parlkeep5_plain : Nd.parlkeep5_plain TCensusLeast := ⟨inferInstance⟩
theorem nt_census_Total : Nd.census_Total TCensusLeast := ⟨inferInstance, nt_census_Trees⟩
theorem nt_parlkeep5_counts : Nd.parlkeep5_counts TCensusLeast := ⟨inferInstance, nt_parlkeep5_plain, nt_census_Total⟩
theorem nt_parlkeep5_CensusLeast_1 : Nd.parlkeep5_CensusLeast_1 TCensusLeast := ⟨inferInstance⟩
theorem nt_slices_IndexFunc_int_int__parlkeep5_CensusLeast_1 : Nd.slices_IndexFunc_int_int__parlkeep5_CensusLeast_1 TCensusLeast := ⟨inferInstance, nt_parlkeep5_CensusLeast_1⟩
theorem nt_parlkeep5_CensusLeast : Nd.parlkeep5_CensusLeast TCensusLeast := ⟨inferInstance, nt_parlmake_Grammar, nt_census_Least, nt_census_Trees, nt_parlkeep5_counts, nt_slices_IndexFunc_int_int__parlkeep5_CensusLeast_1⟩
theorem censusLeast_law {H : Hp} {w1 : Value} {a0 : (List Int)} (h1 : Rd H w1 (a0.map vi)) (l1 : a0.length ≤ 17592186044416) : G TCensusLeast I.parlkeep5_CensusLeast [w1] H (fun r _ => r = .bool true) :=
  law_of (X.parlkeep5_CensusLeast nt_parlkeep5_CensusLeast (φ := 1000000000) (Sat.nil (PH.le.refl _) (PH.le.refl _)) (rds_int h1 l1) (Gr.censusLeast_plain a0)) rfl
end Go.Proofs.Ythgdobdhdfjhfaa
