/- The law LensTrees of the abstract code, printed by wip/tools/fin.py. Own work. -/
import Derived.Test.YthgdobdhdfjhfaaSl10
import Derived.Test.YthgdobdhdfjhfaaX
import Derived.Test.YthgdobdhdfjhfaaTLensTrees
import Derived.Test.YthgdobdhdfjhfaaQLensTrees
namespace Go.Proofs.Ythgdobdhdfjhfaa
open Go Go.Ab
theorem nt_parlmake_Below : Nd.parlmake_Below TLensTrees := ⟨inferInstance⟩
theorem nt_parlmake_stream_next : Nd.parlmake_stream_next TLensTrees := ⟨inferInstance, nt_parlmake_Below⟩
theorem nt_parlmake_has : Nd.parlmake_has TLensTrees := ⟨inferInstance⟩
theorem nt_parlmake_Grammar : Nd.parlmake_Grammar TLensTrees := ⟨inferInstance, nt_parlmake_stream_next, nt_parlmake_has⟩
theorem nt_parlkeep5_plain : Nd.parlkeep5_plain TLensTrees := ⟨inferInstance⟩
theorem nt_cmp_isNaN_int : Nd.cmp_isNaN_int TLensTrees := ⟨inferInstance⟩
theorem nt_cmp_Compare_int : Nd.cmp_Compare_int TLensTrees := ⟨inferInstance, nt_cmp_isNaN_int⟩
theorem nt_gram_Order : Nd.gram_Order TLensTrees := ⟨inferInstance, nt_cmp_Compare_int⟩
theorem nt_slices_CompareFunc_api_Sym_api_Sym_api_Sym_api_Sym__gram_Order : Nd.slices_CompareFunc_api_Sym_api_Sym_api_Sym_api_Sym__gram_Order TLensTrees := ⟨inferInstance, nt_gram_Order⟩
theorem nt_gram_Compare : Nd.gram_Compare TLensTrees := ⟨inferInstance, nt_cmp_Compare_int, nt_slices_CompareFunc_api_Sym_api_Sym_api_Sym_api_Sym__gram_Order⟩
theorem nt_gram_Check : Nd.gram_Check TLensTrees := ⟨inferInstance, nt_gram_Compare⟩
theorem nt_lens_sums : Nd.lens_sums TLensTrees := ⟨inferInstance⟩
theorem nt_lens_Set : Nd.lens_Set TLensTrees := ⟨inferInstance, nt_gram_Check, nt_lens_sums⟩
theorem nt_census_rows_bool : Nd.census_rows_bool TLensTrees := ⟨inferInstance⟩
theorem nt_census_rows_int : Nd.census_rows_int TLensTrees := ⟨inferInstance⟩
theorem nt_census_newTable : Nd.census_newTable TLensTrees := ⟨inferInstance, nt_census_rows_bool, nt_census_rows_int⟩
theorem nt_census_table_sym : Nd.census_table_sym TLensTrees := ⟨inferInstance⟩
theorem nt_census_table_end : Nd.census_table_end TLensTrees := ⟨inferInstance, nt_census_table_sym⟩
theorem nt_census_table_find : Nd.census_table_find TLensTrees := ⟨inferInstance, nt_census_table_end⟩
theorem nt_census_table_same : Nd.census_table_same TLensTrees := ⟨inferInstance, nt_census_rows_bool, nt_census_table_sym⟩
theorem nt_census_table_endless : Nd.census_table_endless TLensTrees := ⟨inferInstance, nt_census_table_sym⟩
theorem nt_census_table_loops : Nd.census_table_loops TLensTrees := ⟨inferInstance, nt_census_table_same, nt_census_table_endless⟩
theorem nt_census_table_count : Nd.census_table_count TLensTrees := ⟨inferInstance, inferInstance, nt_census_table_sym⟩
theorem nt_census_Trees : Nd.census_Trees TLensTrees := ⟨inferInstance, nt_gram_Check, nt_census_newTable, nt_census_table_find, nt_census_table_loops, nt_census_table_count⟩
theorem nt_parlkeep5_LensTrees : Nd.parlkeep5_LensTrees TLensTrees := ⟨inferInstance, nt_parlmake_Grammar, nt_parlkeep5_plain, nt_lens_Set, nt_census_Trees⟩
theorem lensTrees_law {H : Hp} {w1 : Value} {a0 : (List Int)} (h1 : Rd H w1 (a0.map vi)) (l1 : a0.length ≤ 17592186044416) : G TLensTrees I.parlkeep5_LensTrees [w1] H (fun r _ => r = .bool true) :=
  law_of (X.parlkeep5_LensTrees nt_parlkeep5_LensTrees (φ := 10000) (Sat.nil (PH.le.refl _) (PH.le.refl _)) (rds_int h1 l1) (Gr.lensTrees_plain a0)) rfl
end Go.Proofs.Ythgdobdhdfjhfaa
