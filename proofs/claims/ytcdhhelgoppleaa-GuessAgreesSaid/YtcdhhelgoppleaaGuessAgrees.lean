/- The law GuessAgrees of the abstract code, printed by wip/tools/fin.py. Own work. -/
import Derived.Test.YtcdhhelgoppleaaSl10
import Derived.Test.YtcdhhelgoppleaaX
import Derived.Test.YtcdhhelgoppleaaTGuessAgrees
import Derived.Test.YtcdhhelgoppleaaQGuessAgrees
namespace Go.Proofs.Ytcdhhelgoppleaa
open Go Go.Ab
theorem nt_parlmake_Below : Nd.parlmake_Below TGuessAgrees := ⟨inferInstance⟩
theorem nt_parlmake_stream_next : Nd.parlmake_stream_next TGuessAgrees := ⟨inferInstance, nt_parlmake_Below⟩
theorem nt_parlmake_Dfa : Nd.parlmake_Dfa TGuessAgrees := ⟨inferInstance, nt_parlmake_stream_next⟩
theorem nt_guess_Rules : Nd.guess_Rules TGuessAgrees := ⟨inferInstance⟩
theorem nt_slices_Grow_int_int__nil : Nd.slices_Grow_int_int__nil TGuessAgrees := ⟨inferInstance⟩
theorem nt_slices_Concat_int_int : Nd.slices_Concat_int_int TGuessAgrees := ⟨inferInstance, nt_slices_Grow_int_int__nil⟩
theorem nt_slices_Equal_int_int : Nd.slices_Equal_int_int TGuessAgrees := ⟨inferInstance⟩
theorem nt_guess_Check_1 : Nd.guess_Check_1 TGuessAgrees := ⟨inferInstance, nt_slices_Equal_int_int⟩
theorem nt_slices_IndexFunc_int_int_34__guess_Check_1 : Nd.slices_IndexFunc_int_int_34__guess_Check_1 TGuessAgrees := ⟨inferInstance, nt_guess_Check_1⟩
theorem nt_slices_ContainsFunc_int_int_26__guess_Check_1 : Nd.slices_ContainsFunc_int_int_26__guess_Check_1 TGuessAgrees := ⟨inferInstance, nt_slices_IndexFunc_int_int_34__guess_Check_1⟩
theorem nt_guess_Check : Nd.guess_Check TGuessAgrees := ⟨inferInstance, nt_slices_Concat_int_int, nt_slices_ContainsFunc_int_int_26__guess_Check_1⟩
theorem nt_guess_first : Nd.guess_first TGuessAgrees := ⟨inferInstance⟩
theorem nt_slices_Clone_api_Sym_api_Sym : Nd.slices_Clone_api_Sym_api_Sym TGuessAgrees := ⟨inferInstance⟩
theorem nt_guess_accepts_1 : Nd.guess_accepts_1 TGuessAgrees := ⟨inferInstance⟩
theorem nt_guess_accepts : Nd.guess_accepts TGuessAgrees := ⟨inferInstance, nt_guess_accepts_1⟩
theorem nt_guess_agrees : Nd.guess_agrees TGuessAgrees := ⟨inferInstance, nt_guess_accepts⟩
theorem nt_slices_Clone_int_int : Nd.slices_Clone_int_int TGuessAgrees := ⟨inferInstance⟩
theorem nt_guess_next : Nd.guess_next TGuessAgrees := ⟨inferInstance, nt_slices_Clone_int_int⟩
theorem nt_guess_Of : Nd.guess_Of TGuessAgrees := ⟨inferInstance, nt_guess_Rules, nt_guess_Check, nt_guess_first, nt_slices_Clone_api_Sym_api_Sym, nt_guess_agrees, nt_guess_next⟩
theorem nt_parlkeep5_below : Nd.parlkeep5_below TGuessAgrees := ⟨inferInstance, nt_parlmake_Below⟩
theorem nt_parlmake_Word : Nd.parlmake_Word TGuessAgrees := ⟨inferInstance, nt_parlmake_Below⟩
theorem nt_dfa_Check : Nd.dfa_Check TGuessAgrees := ⟨inferInstance⟩
theorem nt_dfa_Run : Nd.dfa_Run TGuessAgrees := ⟨inferInstance, nt_dfa_Check⟩
theorem nt_parlkeep5_accepts : Nd.parlkeep5_accepts TGuessAgrees := ⟨inferInstance, nt_dfa_Run⟩
theorem nt_parlkeep5_examples : Nd.parlkeep5_examples TGuessAgrees := ⟨inferInstance, nt_parlkeep5_below, nt_parlmake_Word, nt_parlkeep5_accepts⟩
theorem nt_parlkeep5_fewer_1_1 : Nd.parlkeep5_fewer_1_1 TGuessAgrees := ⟨inferInstance⟩
theorem nt_slices_IndexFunc_int_int__parlkeep5_fewer_1_1 : Nd.slices_IndexFunc_int_int__parlkeep5_fewer_1_1 TGuessAgrees := ⟨inferInstance, nt_parlkeep5_fewer_1_1⟩
theorem nt_slices_ContainsFunc_int_int__parlkeep5_fewer_1_1 : Nd.slices_ContainsFunc_int_int__parlkeep5_fewer_1_1 TGuessAgrees := ⟨inferInstance, nt_slices_IndexFunc_int_int__parlkeep5_fewer_1_1⟩
theorem nt_parlkeep5_fewer_1 : Nd.parlkeep5_fewer_1 TGuessAgrees := ⟨inferInstance, nt_slices_ContainsFunc_int_int__parlkeep5_fewer_1_1⟩
theorem nt_slices_IndexFunc_int_int_34__parlkeep5_fewer_1 : Nd.slices_IndexFunc_int_int_34__parlkeep5_fewer_1 TGuessAgrees := ⟨inferInstance, nt_parlkeep5_fewer_1⟩
theorem nt_slices_DeleteFunc_int_int__parlkeep5_fewer_1 : Nd.slices_DeleteFunc_int_int__parlkeep5_fewer_1 TGuessAgrees := ⟨inferInstance, nt_slices_IndexFunc_int_int_34__parlkeep5_fewer_1, nt_parlkeep5_fewer_1⟩
theorem nt_parlkeep5_fewer : Nd.parlkeep5_fewer TGuessAgrees := ⟨inferInstance, nt_parlkeep5_examples, nt_slices_DeleteFunc_int_int__parlkeep5_fewer_1⟩
theorem nt_cmp_isNaN_int : Nd.cmp_isNaN_int TGuessAgrees := ⟨inferInstance⟩
theorem nt_cmp_Compare_int : Nd.cmp_Compare_int TGuessAgrees := ⟨inferInstance, nt_cmp_isNaN_int⟩
theorem nt_gram_Order : Nd.gram_Order TGuessAgrees := ⟨inferInstance, nt_cmp_Compare_int⟩
theorem nt_slices_CompareFunc_api_Sym_api_Sym_api_Sym_api_Sym__gram_Order : Nd.slices_CompareFunc_api_Sym_api_Sym_api_Sym_api_Sym__gram_Order TGuessAgrees := ⟨inferInstance, nt_gram_Order⟩
theorem nt_gram_Compare : Nd.gram_Compare TGuessAgrees := ⟨inferInstance, nt_cmp_Compare_int, nt_slices_CompareFunc_api_Sym_api_Sym_api_Sym_api_Sym__gram_Order⟩
theorem nt_gram_Check : Nd.gram_Check TGuessAgrees := ⟨inferInstance, nt_gram_Compare⟩
theorem nt_gram_Word : Nd.gram_Word TGuessAgrees := ⟨inferInstance⟩
theorem nt_mean_check : Nd.mean_check TGuessAgrees := ⟨inferInstance, nt_gram_Check, nt_gram_Word⟩
theorem nt_mean_ends_after : Nd.mean_ends_after TGuessAgrees := ⟨inferInstance⟩
theorem nt_mean_derived : Nd.mean_derived TGuessAgrees := ⟨inferInstance, nt_mean_ends_after⟩
theorem nt_mean_ends_is : Nd.mean_ends_is TGuessAgrees := ⟨inferInstance, nt_mean_ends_after⟩
theorem nt_mean_Accepts : Nd.mean_Accepts TGuessAgrees := ⟨inferInstance, nt_mean_check, nt_mean_derived, nt_mean_ends_is⟩
theorem nt_parlkeep5_GuessAgrees : Nd.parlkeep5_GuessAgrees TGuessAgrees := ⟨inferInstance, nt_parlmake_Dfa, nt_guess_Of, nt_parlkeep5_fewer, nt_parlkeep5_below, nt_mean_Accepts⟩
theorem guessAgrees_law {H : Hp} {w1 : Value} {a0 : (List Int)} (h1 : Rd H w1 (a0.map vi)) (l1 : a0.length ≤ 17592186044416) {w2 : Value} {a1 : (List Int)} (h2 : Rd H w2 (a1.map vi)) (l2 : a1.length ≤ 17592186044416) (a2 : Int) : G TGuessAgrees I.parlkeep5_GuessAgrees [w1, w2, vi a2] H (fun r _ => r = .bool true) := by
  obtain ⟨φ, hφ⟩ := Gr.guessAgrees_plain a0 a1 a2
  exact law_of (X.parlkeep5_GuessAgrees nt_parlkeep5_GuessAgrees (φ := φ) (Sat.nil (PH.le.refl _) (PH.le.refl _)) (rds_int h1 l1) (rds_int h2 l2) hφ) rfl
end Go.Proofs.Ytcdhhelgoppleaa
