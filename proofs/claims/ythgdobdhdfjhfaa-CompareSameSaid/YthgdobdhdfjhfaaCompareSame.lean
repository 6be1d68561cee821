/- The law CompareSame of the abstract code, printed by wip/tools/fin.py. Own work. -/
import Derived.Test.YthgdobdhdfjhfaaSl10
import Derived.Test.YthgdobdhdfjhfaaX
import Derived.Test.YthgdobdhdfjhfaaTCompareSame
import Derived.Test.YthgdobdhdfjhfaaQCompareSame
namespace Go.Proofs.Ythgdobdhdfjhfaa
open Go Go.Ab
theorem nt_parlmake_Below : Nd.parlmake_Below TCompareSame := ⟨inferInstance⟩
theorem nt_parlmake_stream_next : Nd.parlmake_stream_next TCompareSame := ⟨inferInstance, nt_parlmake_Below⟩
theorem nt_parlmake_has : Nd.parlmake_has TCompareSame := ⟨inferInstance⟩
theorem nt_parlmake_Grammar : Nd.parlmake_Grammar TCompareSame := ⟨inferInstance, nt_parlmake_stream_next, nt_parlmake_has⟩
theorem nt_parlkeep5_plain : Nd.parlkeep5_plain TCompareSame := ⟨inferInstance⟩
theorem nt_cmp_isNaN_int : Nd.cmp_isNaN_int TCompareSame := ⟨inferInstance⟩
theorem nt_cmp_Compare_int : Nd.cmp_Compare_int TCompareSame := ⟨inferInstance, nt_cmp_isNaN_int⟩
theorem nt_gram_Order : Nd.gram_Order TCompareSame := ⟨inferInstance, nt_cmp_Compare_int⟩
theorem nt_slices_CompareFunc_api_Sym_api_Sym_api_Sym_api_Sym__gram_Order : Nd.slices_CompareFunc_api_Sym_api_Sym_api_Sym_api_Sym__gram_Order TCompareSame := ⟨inferInstance, nt_gram_Order⟩
theorem nt_gram_Compare : Nd.gram_Compare TCompareSame := ⟨inferInstance, nt_cmp_Compare_int, nt_slices_CompareFunc_api_Sym_api_Sym_api_Sym_api_Sym__gram_Order⟩
theorem nt_gram_Check : Nd.gram_Check TCompareSame := ⟨inferInstance, nt_gram_Compare⟩
theorem nt_compare_words : Nd.compare_words TCompareSame := ⟨inferInstance⟩
theorem nt_gram_Word : Nd.gram_Word TCompareSame := ⟨inferInstance⟩
theorem nt_mean_check : Nd.mean_check TCompareSame := ⟨inferInstance, nt_gram_Check, nt_gram_Word⟩
theorem nt_mean_ends_after : Nd.mean_ends_after TCompareSame := ⟨inferInstance⟩
theorem nt_mean_derived : Nd.mean_derived TCompareSame := ⟨inferInstance, nt_mean_ends_after⟩
theorem nt_mean_ends_is : Nd.mean_ends_is TCompareSame := ⟨inferInstance, nt_mean_ends_after⟩
theorem nt_mean_Accepts : Nd.mean_Accepts TCompareSame := ⟨inferInstance, nt_mean_check, nt_mean_derived, nt_mean_ends_is⟩
theorem nt_compare_next : Nd.compare_next TCompareSame := ⟨inferInstance⟩
theorem nt_compare_Least : Nd.compare_Least TCompareSame := ⟨inferInstance, nt_gram_Check, nt_compare_words, nt_mean_Accepts, nt_compare_next⟩
theorem nt_slices_Equal_int_int : Nd.slices_Equal_int_int TCompareSame := ⟨inferInstance⟩
theorem nt_slices_Clone_api_Rule_api_Rule : Nd.slices_Clone_api_Rule_api_Rule TCompareSame := ⟨inferInstance⟩
theorem nt_slices_Reverse_api_Rule_api_Rule : Nd.slices_Reverse_api_Rule_api_Rule TCompareSame := ⟨inferInstance⟩
theorem nt_parlkeep5_below : Nd.parlkeep5_below TCompareSame := ⟨inferInstance, nt_parlmake_Below⟩
theorem nt_parlkeep5_CompareSame : Nd.parlkeep5_CompareSame TCompareSame := ⟨inferInstance, nt_parlmake_Grammar, nt_parlkeep5_plain, nt_compare_Least, nt_slices_Equal_int_int, nt_slices_Clone_api_Rule_api_Rule, nt_slices_Reverse_api_Rule_api_Rule, nt_parlkeep5_below⟩
theorem compareSame_law {H : Hp} {w1 : Value} {a0 : (List Int)} (h1 : Rd H w1 (a0.map vi)) (l1 : a0.length ≤ 17592186044416) (a1 : Int) : G TCompareSame I.parlkeep5_CompareSame [w1, vi a1] H (fun r _ => r = .bool true) :=
  law_of (X.parlkeep5_CompareSame nt_parlkeep5_CompareSame (φ := 10000000) (Sat.nil (PH.le.refl _) (PH.le.refl _)) (rds_int h1 l1) (Gr.compareSame_plain a0 a1)) rfl
end Go.Proofs.Ythgdobdhdfjhfaa
