/- The law CompareSides of the abstract code, printed by wip/tools/fin.py. Own work. -/
import Derived.Test.YthgdobdhdfjhfaaSl10
import Derived.Test.YthgdobdhdfjhfaaX
import Derived.Test.YthgdobdhdfjhfaaTCompareSides
import Derived.Test.YthgdobdhdfjhfaaQCompareSides
namespace Go.Proofs.Ythgdobdhdfjhfaa
open Go Go.Ab
theorem nt_parlmake_Below : Nd.parlmake_Below TCompareSides := ⟨inferInstance⟩
theorem nt_parlmake_stream_next : Nd.parlmake_stream_next TCompareSides := ⟨inferInstance, nt_parlmake_Below⟩
theorem nt_parlmake_has : Nd.parlmake_has TCompareSides := ⟨inferInstance⟩
theorem nt_parlmake_Grammar : Nd.parlmake_Grammar TCompareSides := ⟨inferInstance, nt_parlmake_stream_next, nt_parlmake_has⟩
theorem nt_slices_Equal_api_Sym_api_Sym : Nd.slices_Equal_api_Sym_api_Sym TCompareSides := ⟨inferInstance⟩
theorem nt_parlkeep5_distinct_1 : Nd.parlkeep5_distinct_1 TCompareSides := ⟨inferInstance, nt_slices_Equal_api_Sym_api_Sym⟩
theorem nt_slices_IndexFunc_api_Rule_api_Rule__parlkeep5_distinct_1 : Nd.slices_IndexFunc_api_Rule_api_Rule__parlkeep5_distinct_1 TCompareSides := ⟨inferInstance, nt_parlkeep5_distinct_1⟩
theorem nt_slices_ContainsFunc_api_Rule_api_Rule__parlkeep5_distinct_1 : Nd.slices_ContainsFunc_api_Rule_api_Rule__parlkeep5_distinct_1 TCompareSides := ⟨inferInstance, nt_slices_IndexFunc_api_Rule_api_Rule__parlkeep5_distinct_1⟩
theorem nt_parlkeep5_distinct : Nd.parlkeep5_distinct TCompareSides := ⟨inferInstance, nt_slices_ContainsFunc_api_Rule_api_Rule__parlkeep5_distinct_1⟩
theorem nt_parlkeep5_plain : Nd.parlkeep5_plain TCompareSides := ⟨inferInstance⟩
theorem nt_cmp_isNaN_int : Nd.cmp_isNaN_int TCompareSides := ⟨inferInstance⟩
theorem nt_cmp_Compare_int : Nd.cmp_Compare_int TCompareSides := ⟨inferInstance, nt_cmp_isNaN_int⟩
theorem nt_gram_Order : Nd.gram_Order TCompareSides := ⟨inferInstance, nt_cmp_Compare_int⟩
theorem nt_slices_CompareFunc_api_Sym_api_Sym_api_Sym_api_Sym__gram_Order : Nd.slices_CompareFunc_api_Sym_api_Sym_api_Sym_api_Sym__gram_Order TCompareSides := ⟨inferInstance, nt_gram_Order⟩
theorem nt_gram_Compare : Nd.gram_Compare TCompareSides := ⟨inferInstance, nt_cmp_Compare_int, nt_slices_CompareFunc_api_Sym_api_Sym_api_Sym_api_Sym__gram_Order⟩
theorem nt_gram_Check : Nd.gram_Check TCompareSides := ⟨inferInstance, nt_gram_Compare⟩
theorem nt_compare_words : Nd.compare_words TCompareSides := ⟨inferInstance⟩
theorem nt_gram_Word : Nd.gram_Word TCompareSides := ⟨inferInstance⟩
theorem nt_mean_check : Nd.mean_check TCompareSides := ⟨inferInstance, nt_gram_Check, nt_gram_Word⟩
theorem nt_mean_ends_after : Nd.mean_ends_after TCompareSides := ⟨inferInstance⟩
theorem nt_mean_derived : Nd.mean_derived TCompareSides := ⟨inferInstance, nt_mean_ends_after⟩
theorem nt_mean_ends_is : Nd.mean_ends_is TCompareSides := ⟨inferInstance, nt_mean_ends_after⟩
theorem nt_mean_Accepts : Nd.mean_Accepts TCompareSides := ⟨inferInstance, nt_mean_check, nt_mean_derived, nt_mean_ends_is⟩
theorem nt_compare_next : Nd.compare_next TCompareSides := ⟨inferInstance⟩
theorem nt_compare_Least : Nd.compare_Least TCompareSides := ⟨inferInstance, nt_gram_Check, nt_compare_words, nt_mean_Accepts, nt_compare_next⟩
theorem nt_slices_Equal_int_int : Nd.slices_Equal_int_int TCompareSides := ⟨inferInstance⟩
theorem nt_parlkeep5_below : Nd.parlkeep5_below TCompareSides := ⟨inferInstance, nt_parlmake_Below⟩
theorem nt_parlkeep5_CompareSides : Nd.parlkeep5_CompareSides TCompareSides := ⟨inferInstance, nt_parlmake_Grammar, nt_parlkeep5_distinct, nt_parlkeep5_plain, nt_compare_Least, nt_slices_Equal_int_int, nt_parlkeep5_below, nt_mean_Accepts⟩
theorem compareSides_law {H : Hp} {w1 : Value} {a0 : (List Int)} (h1 : Rd H w1 (a0.map vi)) (l1 : a0.length ≤ 17592186044416) {w2 : Value} {a1 : (List Int)} (h2 : Rd H w2 (a1.map vi)) (l2 : a1.length ≤ 17592186044416) (a2 : Int) : G TCompareSides I.parlkeep5_CompareSides [w1, w2, vi a2] H (fun r _ => r = .bool true) :=
  law_of (X.parlkeep5_CompareSides nt_parlkeep5_CompareSides (φ := 10000000) (Sat.nil (PH.le.refl _) (PH.le.refl _)) (rds_int h1 l1) (rds_int h2 l2) (Gr.compareSides_plain a0 a1 a2)) rfl
end Go.Proofs.Ythgdobdhdfjhfaa
